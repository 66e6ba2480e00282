/-
  An abstract executor of the program's code, and that it is sound, part 1. No conditions: definitions and laws.
-/
import GoSem.Step
import Derived.RangeFuncLeaves
import Derived.RecoverIn
import Derived.OrdersIn
import Derived.Laws.IdiomCopy
import Derived.Below
import Derived.MapKept
import Derived.Laws.Strings
import Derived.Deep.Upon
import Derived.Laws.IdiomStrings
import Derived.Laws.MakeOwn
import Derived.Lib.AppendZeros
import Derived.Maps.RangeRun
set_option linter.all false
noncomputable section
namespace Go.Lyc
def bK:=@Nat.le_refl
def jk:=@Nat.le_trans
def ca:=@Option.some.injEq
def eM:=@Nat.eq_of_beq_eq_true
def fR:=@Nat.beq_refl
def oG:=@Ne.symm
def nO:=@Nat.lt_succ_self
def fX:=@Nat.blt_eq
def AI:=@Nat.lt_succ_of_lt
def jD:=@List.length_cons
def AJ:=@List.getElem?_cons_succ
def D9:=@Array.getElem?_setIfInBounds
def Jx:=@Array.getElem?_setIfInBounds_ne
def Jy:=@Array.getElem?_modify
def vz:=@Array.getElem?_eq_some_iff
def Jz:=@Array.getElem?_push
def JA:=@Nat.le_succ
def mF:=@Nat.lt_or_ge
def xF:=@Array.getElem?_eq_none
def qY:=@List.map_map
def pF:=@List.map_congr_left
def fq:=@List.mem_map
def qZ:=@Array.length_toList
def k8:=@List.getElem_of_mem
def mG:=@List.getElem?_eq_some_iff
def cS:=@List.getElem?_eq_getElem
def AK:=@List.getElem_append_left
def AL:=@List.getElem_append_right
def JB:=@List.getElem_drop
def AM:=@List.getElem_take
def e3:=@List.mem_singleton
def er:=@Go.Sem.run_bind
def ez:=@Go.Result.andThen_ok
def l9:=@List.length_take
def vA:=@Nat.add_zero
def sa:=@List.mem_of_mem_take
def mH:=@List.mem_of_mem_drop
def AN:=@List.length_drop
def pG:=@List.getElem?_drop
def q0:=@List.getElem?_take_of_lt
def dO:=@List.length_map
def Tj:=@List.length_range
def eY:=@Nat.le_of_ble_eq_true
def cB:=@List.getElem_mem
def l_:=@Array.getElem?_eq_getElem
def e4:=@List.mem_append
def vB:=@List.getElem?_append
def bT:=@Bool.and_eq_true
def lB:=@Array.getElem?_toList
def ma:=@List.getElem_map
def gX:=@Go.Sem.run_pure
def JC:=@Int.emod_eq_of_lt
def JD:=@UInt8.lt_iff_toNat_lt
def oH:=@Bool.false_eq_true
def q1:=@List.cons.injEq
def k9:=@List.map_cons
def hD:=@Bool.eq_iff_iff
def iq:=@List.mem_cons_self
def e_:=@List.mem_cons_of_mem
def Tk:=@Go.ByteArray.toList_eq
def ky:=@Array.ext'
def Tl:=@Go.MapKept.bytes_beq
def vC:=@Int.natCast_nonneg
def kO:=@Bool.or_eq_true
def lC:=@Nat.beq_eq
def pH:=@Int.ofNat.inj
def vD:=@Nat.lt_of_le_of_lt
def D_:=@Nat.div_le_self
def kg:=@Nat.ble_eq_true_of_le
def vE:=@Int.ofNat_eq_natCast
def Ea:=@Int.ofNat_lt
def Eb:=@Nat.add_assoc
def xG:=@Option.some.inj
def AP:=@Option.map_some
def jV:=@Nat.add_mul
def pI:=@Nat.mul_le_mul_right
def ir:=@Nat.zero_le
def JE:=@List.foldl_cons
def Tn:=@Array.mapM_eq_mapM_toList
def To:=@List.any_eq_false
def sb:=@Nat.one_mul
def xH:=@Nat.add_comm
def nb:=@List.map_append
def nc:=@List.eq_nil_of_length_eq_zero
def vF:=@Array.toList_range
def sc:=@Array.toList_map
def JF:=@Array.getElem!_eq_getD
def oI:=@Array.getD_eq_getD_getElem?
def mb:=@List.flatMap_cons
def dP:=@List.mem_cons
def sd:=@List.mem_flatMap
def Ec:=@List.getElem_cons_zero
def AQ:=@List.length_pos_iff
def Tp:=@Nat.one_le_iff_ne_zero
def Tq:=@Nat.mul_le_mul_left
def Tr:=@Array.size_append
def Ts:=@List.size_toArray
def k_:=@List.length_append
def Tt:=@Array.getElem_append_left
def JG:=@List.mem_append_left
def Ed:=@List.mem_append_right
def q2:=@List.drop_drop
def Ee:=@List.getElem_cons_succ
def Ef:=@List.forIn_cons
def Tu:=@List.zip_cons_cons
def kP:=@List.all_cons
def Eg:=@Bool.and_self
def se:=@Bool.not_eq_true'
def fI:=@List.all_eq_true
def Eh:=@List.mem_iff_getElem
def Ei:=@Nat.sub_self
def JH:=@List.length_set
def Ej:=@List.getElem_set
def JI:=@List.filter_cons
set_option maxHeartbeats 0
set_option maxRecDepth 100000
inductive AV where
 |b (x:Bool)
 |i (k:IntKind) (n:Int)
 |s (l:List Nat)
 |p (a:Option (Nat×Nat))
 |cG (old:Bool) (v:AV)
 |al (id off len:Nat) (R:Option Nat) (cap:Option Nat)
 |J
 |aD (old:Bool) (R:Option Nat) (xs:List AV)
 |m (r:Option Nat)
 |f (fn:Fn) (first captured:List AV)
 |iK
 |it (t:TypeId) (v:AV)
 |fb
 |ag (l:List AV)
 |aK (l:List AV)
 |hq (k:IntKind) (d j:Nat) -- a d5v number,of Tv is known Ek it leaves by d
 |fY (ex:List (List Nat)) -- a string,none of b6Y
 |iu (hi:Bool) -- tC i64 tD is not known:d5w it is d5x b6Z 40
 |y (i:Nat) -- a string,tC integer tD is not known
 |eN (old:Bool) (i:Nat) -- a slice tD is not known,over memory tD never changes
 |gH (n:Nat) -- tC i64 tD is not known,not less b6Z n
 |iv (bs hi:Nat) -- tC i64 tD is not known,d5y two numbers
 |jl (old:Bool) (R:Option Nat) (xs:List AV) -- d5z aD,with a capacity tD is b7a length
 deriving Inhabited
inductive az where
 |t (i:Nat)
 |c (v:AV)
 |g (g:Nat)
 deriving Inhabited
inductive q3 where
 |fn (f:Nat)
 |val (I:az)
 deriving Inhabited
inductive AOp where
 |bU (x:az)
 |pick (c a b:az)
 |alloc (v:AV)
 |box (x:az)
 |build (zero:List AV) (parts:List (Nat×Nat×az)) -- offset,cells,Ek
 |buildSlice (R:Option Nat) (len:Nat) (zero:List AV) (parts:List (Nat×az))
 |load (R:Option Nat) (a:az)
 |store (R:Option Nat) (a x:az)
 |nilCheck (x:az)
 |bin (op:BinOp) (x y:az)
 |xI (neg:Bool) (x y:az)
 |la (kind:Nat) (neg:Bool) (x y:az) -- kind:0 interface,1 pointer,2 function,3 slice,4 map;from 10 on:structs
 |not (x:az)
 |neg (x:az)
 |conv (k:IntKind) (x:az)
 |El (x:az)
 |Em (x:az)
 |En (t:TypeId) (x:az)
 |q4 (fn:Fn) (first captured:List az)
 |mkMap
 |mkSlice (R:Option Nat) (bytes:Nat) (zero:List AV) (len cap:az)
 |xJ (n:Nat) (R:Option Nat) (x:az) (bs hi:Option az)
 |vG (R:Option Nat) (x:az) (bs hi da:Option az)
 |oJ (x:az) (bs hi:Option az)
 |fieldAddr (off:Nat) (R:Option Nat) (x:az)
 |field (off:Nat) (R:Option Nat) (x:az)
 |xK (n:Nat) (R:Option Nat) (x i:az)
 |di (R:Option Nat) (x i:az)
 |lD (x i:az)
 |JJ (n:Nat) (R:Option Nat) (x i:az)
 |lookup (R:Nat ⊕ List Nat) (x k:az) (zero:AV) (ok:Bool) -- pJ d5A shape
 |pK (R:Nat ⊕ List Nat) (m k v:az)
 |rangeMap (x:az)
 |sf (x:az)
 |entry (x:az)
 |JK (x:az) (t:TypeId) (zero:AV) (ok:Bool)
 |extract (x:az) (i:Nat)
 |call (c:q3) (args:List az)
 |kh (c:q3) (args:List az)
 |panic (x:az)
 |append (R:Option Nat) (bytes:Nat) (s x:az)
 |len (kind:Nat) (x:az) -- 0:string;1:slice;2:map
 |Eo (n:Nat)
 |cap (x:az)
 |copy (R:Option Nat) (d s:az)
 |Ep (da:Bool) (x y:az)
 |recover
 |bad
 deriving Inhabited
structure aQ where
 dst:Option Nat
 op:AOp
 guard:Option (Nat×Bool) -- pJ b7b,and Ek it d5B be
 iL:List Nat -- of a region tD d5C:pJ places ahead of Tv it may d5D,b7c
 deriving Inhabited
inductive bc where
 |skip
 |region (ops:List aQ)
 |draw (ops:List aQ)
 |seq (a b:bc)
 |cond (c:az) (a b:bc)
 |block (id:Nat) (a:bc)
 |loop (a:bc)
 |scope (a:bc)
 |rangeFunc (f:az) (ps:List Nat) (assign body:bc)
 |exit (id:Nat)
 |ret
 |bad
 deriving Inhabited
structure bV where
 kz:Nat
 ntmps:Nat
 results:List (Nat×Option (Option Nat)) -- pJ b7b;none:by value;some R:a cell of tD shape
 body:Option bc
 deriving Inhabited
inductive aP(α:Type) where
 |nil
 |node (v:Option α) (l r:aP α)
 deriving Inhabited
def aP.get{α:Type}(t:aP α):Nat→Option α:=
 aP.rec (fun _=>none) (fun v _ _ gY AR i=>Bool.rec (motive:=fun _=>Option α) (Bool.rec (motive:=fun _=>Option α) (AR (Nat.div (Nat.sub i 1) 2)) (gY (Nat.div (Nat.sub i 1) 2)) (Nat.beq (Nat.mod i 2) 1)) v (Nat.beq i 0)) t
def aP.set{α:Type}(t:aP α):Nat→α→aP α:=
 aP.rec (fun _ _=>.nil) (fun v l r gY AR i x=>Bool.rec (motive:=fun _=>aP α) (Bool.rec (motive:=fun _=>aP α) (.node v l (AR (Nat.div (Nat.sub i 1) 2) x)) (.node v (gY (Nat.div (Nat.sub i 1) 2) x) r) (Nat.beq (Nat.mod i 2) 1))
  (.node (Option.rec (motive:=fun _=>Option α) none (fun _=>some x) v) l r) (Nat.beq i 0)) t
def aP.xL{α:Type}(f:Nat):Nat→α→aP α:=
 Nat.rec (fun _ _=>.nil) (fun _ ay i x=>Bool.rec (motive:=fun _=>aP α) (Bool.rec (motive:=fun _=>aP α) (.node none .nil (ay (Nat.div (Nat.sub i 1) 2) x)) (.node none (ay (Nat.div (Nat.sub i 1) 2) x) .nil) (Nat.beq (Nat.mod i 2) 1)) (.node (some x) .nil .nil) (Nat.beq i 0)) f
def aP.ins{α:Type}(t:aP α):Nat→α→aP α:=
 aP.rec (fun i x=>aP.xL (i+1) i x) (fun v l r gY AR i x=>Bool.rec (motive:=fun _=>aP α) (Bool.rec (motive:=fun _=>aP α) (.node v l (AR (Nat.div (Nat.sub i 1) 2) x)) (.node v (gY (Nat.div (Nat.sub i 1) 2) x) r) (Nat.beq (Nat.mod i 2) 1))
  (.node (some x) l r) (Nat.beq i 0)) t
def aP.full{α:Type}(f:Nat)(x:α):Nat→aP α:=
 Nat.rec (fun _=>.nil) (fun _ ay n=>cond (Nat.beq n 0) .nil (.node (some x) (ay (Nat.div n 2)) (ay (Nat.div (Nat.sub n 1) 2)))) f
def aP.lay{α:Type}(l:List α):Nat→aP α→aP α:=
 List.rec (fun _ t=>t) (fun x _ ay i t=>ay (i+1) (t.set i x)) l
inductive pL where
 |h
 |l (p:pL)
 |r (p:pL)
def vH(f:Nat):Nat→pL:=
 Nat.rec (motive:=fun _=>Nat→pL) (fun _=>.h) (fun _ ay i=>Bool.rec (motive:=fun _=>pL) (Bool.rec (motive:=fun _=>pL) (.r (ay (Nat.div (Nat.sub i 1) 2))) (.l (ay (Nat.div (Nat.sub i 1) 2))) (Nat.beq (Nat.mod i 2) 1)) .h (Nat.beq i 0)) f
def JL(i:Nat):pL:=vH (Nat.succ i) i
def aP.Er{α:Type}(p:pL):aP α→Option α:=
 pL.rec (motive:=fun _=>aP α→Option α) (fun t=>aP.rec (motive:=fun _=>Option α) none (fun v _ _ _ _=>v) t) (fun _ ay t=>aP.rec (motive:=fun _=>Option α) none (fun _ l _ _ _=>ay l) t)
  (fun _ ay t=>aP.rec (motive:=fun _=>Option α) none (fun _ _ r _ _=>ay r) t) p
def aP.Tw{α:Type}(x:α)(p:pL):aP α→aP α:=
 pL.rec (motive:=fun _=>aP α→aP α) (fun t=>aP.rec (motive:=fun _=>aP α) .nil (fun v l r _ _=>.node (Option.rec (motive:=fun _=>Option α) none (fun _=>some x) v) l r) t)
  (fun _ ay t=>aP.rec (motive:=fun _=>aP α) .nil (fun v l r _ _=>.node v (ay l) r) t) (fun _ ay t=>aP.rec (motive:=fun _=>aP α) .nil (fun v l r _ _=>.node v l (ay r)) t) p
inductive AO where
 |cells (c:List AV)
 |dead
 |map (es:List (AV×AV×Nat)) (clock:Nat)
 |mapIter (m:Option Nat) (since:Nat) (seen:List Nat) (gB:Nat)
 |loop (st:LoopState) (pending:Option bc) (aW:aP AV) (ps:List Nat) (assign body:bc) (cT:Nat)
 |cT
 |gI (c:List AV) (r:Nat) -- cells,and b7d many more there b7e behind d5E,d5F d5G hold
 deriving Inhabited
structure ad where
 vI:aP AO
 next:Nat
 deriving Inhabited
def mapO{α β:Type}(f:α→Option β)(l:List α):Option (List β):=
 List.rec (some []) (fun x _ ay=>match f x with|none=>none|some y=>match ay with|none=>none|some aZ=>some (y::aZ)) l
def nth{α:Type}(l:List α):Nat→Option α:=
 List.rec (fun _=>none) (fun x _ ay n=>Nat.rec (some x) (fun n _=>ay n) n) l
def eqL(l:List Nat):List Nat→Bool:=
 List.rec (fun r=>match r with|[]=>true|_::_=>false) (fun x _ ay r=>match r with|[]=>false|y::aZ=>cond (Nat.beq x y) (ay aZ) false) l
def fS(l:List Nat):List Nat→Bool:=
 List.rec (fun r=>match r with|[]=>false|_::_=>true)
  (fun x _ ay r=>match r with
   |[]=>false
   |y::aZ=>cond (Nat.blt x y) true (cond (Nat.beq x y) (ay aZ) false)) l
def fD{α:Type}(f:α→α→Bool)(l:List α):List α→Bool:=
 List.rec (fun r=>match r with|[]=>true|_::_=>false) (fun x _ ay r=>match r with|[]=>false|y::aZ=>cond (f x y) (ay aZ) false) l
def ad.get(o:ad)(id:Nat):Option AO:=cond (Nat.blt id o.next) (o.vI.get id) none
def ad.set(o:ad)(id:Nat)(I:AO):ad:=⟨o.vI.ins id I,o.next⟩
def ad.push(o:ad)(I:AO):ad:=⟨o.vI.ins o.next I,o.next+1⟩
def AV.cells:AV→List AV
 | .ag l=>l
 |v=>[v]
def AV.val:AV→Bool
 | .aK _=>false
 |_=>true
def shN:Option Nat→Nat
 |none=>1
 |some n=>n
def eA(R:Option Nat)(c:List AV):Option AV:=
 match R with
 |none=>c.head?
 |some n=>let l:=c.take n;if l.length=n then some (.ag l) else none
def conf(R:Option Nat)(v:AV):Bool:=
 match R,v with
 |none,.ag _=>false
 |none,.aK _=>false
 |none,_=>true
 |some n,.ag l=>Nat.beq l.length n
 |some _,_=>false
def elems(R:Option Nat)(n:Nat)(c:List AV):Option (List AV):=
 Nat.rec (motive:=fun _=>List AV→Option (List AV)) (fun _=>some [])
  (fun _ ay c=>match eA R c with
   |none=>none
   |some v=>match ay (c.drop (shN R)) with|none=>none|some aX=>some (v::aX)) n c
def readList(o:ad):AV→Option (List AV)
 | .J=>some []
 | .aD _ _ xs=>some xs
 | .jl _ _ xs=>some xs
 | .al id off len R _=>match o.get id with
  |some (.cells c)=>elems R len (c.drop off)
  |_=>none
 |_=>none
def freeze(o:ad)(base:Nat)(n:Nat):AV→Option AV:=
 Nat.rec (motive:=fun _=>AV→Option AV) (fun _=>none) (fun _ ay v=>
  match v with
  | .al id off len R cap=>if Nat.blt id base then none else
   match readList o (.al id off len R cap) with
   |none=>none
   |some xs=>match mapO ay xs with|none=>none|some xs=>some (.aD false R xs)
  | .ag l=>match mapO ay l with|none=>none|some l=>some (.ag l)
  | .aK l=>match mapO ay l with|none=>none|some l=>some (.aK l)
  | .it t v=>match ay v with|none=>none|some v=>some (.it t v)
  | .p (some _)=>none
  | .m (some _)=>none
  | .f _ _ _=>none
  | .jl _ _ _=>none
  |v=>some v) n
def bW(o:ad)(n:Nat):AV→Option AV:=
 Nat.rec (motive:=fun _=>AV→Option AV) (fun _=>none) (fun _ ay v=>
  match v with
  | .al id off len R cap=>
   match readList o (.al id off len R cap) with
   |none=>none
   |some xs=>match mapO ay xs with|none=>none|some xs=>some (.aD true R xs)
  | .J=>some .J
  | .aD _ R xs=>match mapO ay xs with|none=>none|some xs=>some (.aD true R xs)
  | .ag l=>match mapO ay l with|none=>none|some l=>some (.ag l)
  | .aK l=>match mapO ay l with|none=>none|some l=>some (.aK l)
  | .it t v=>match ay v with|none=>none|some v=>some (.it t v)
  | .p (some _)=>none
  | .m (some _)=>none
  | .cG _ _=>none
  | .f _ _ _=>none
  | .eN _ i=>some (.eN true i)
  | .jl _ _ _=>none
  |v=>some v) n
def AV.eqb(n:Nat):AV→AV→Bool:=
 Nat.rec (motive:=fun _=>AV→AV→Bool) (fun _ _=>false) (fun _ ay x y=>
  match x,y with
  | .b x,.b y=>x==y
  | .i k x,.i l y=>decide (k=l)&&decide (x=y)
  | .s x,.s y=>eqL x y
  | .J,.J=>true
  | .aD sg R xs,.aD cw fr aZ=>(sg==cw)&&decide (R=fr)&&fD ay xs aZ
  | .iK,.iK=>true
  | .fb,.fb=>true
  | .p none,.p none=>true
  | .p (some x),.p (some y)=>Nat.beq x.1 y.1&&Nat.beq x.2 y.2
  | .m none,.m none=>true
  | .m (some x),.m (some y)=>Nat.beq x y
  | .al a6 a2 a3 a4 a5,.al dA dQ fE AS JM=>Nat.beq a6 dA&&Nat.beq a2 dQ&&Nat.beq a3 fE&&decide (a4=AS)&&decide (a5=JM)
  | .cG sg x,.cG cw y=>(sg==cw)&&ay x y
  | .f bA dK x,.f aM tE y=>decide (bA=aM)&&(fD ay dK tE&&fD ay x y)
  | .it t x,.it u y=>Nat.beq t u&&ay x y
  | .ag x,.ag y=>fD ay x y
  | .aK x,.aK y=>fD ay x y
  | .hq k d j,.hq gZ e5 q5=>decide (k=gZ)&&(Nat.beq d e5&&Nat.beq j q5)
  | .fY x,.fY y=>fD eqL x y
  | .iu c,.iu d=>c==d
  | .y c,.y d=>Nat.beq c d
  | .eN sg c,.eN cw d=>(sg==cw)&&Nat.beq c d
  | .gH c,.gH d=>Nat.beq c d
  | .iv c bR,.iv d e5=>Nat.beq c d&&Nat.beq bR e5
  |_,_=>false) n
def oK(a:List Nat)(ex:List (List Nat)):Bool:=List.rec false (fun x _ ay=>cond (eqL a x) true ay) ex
def leafEq(kind:Nat)(a b:AV):Option Bool:=
 match kind,a,b with
 |0,.i k a,.i l b=>if k=l then some (decide (a=b)) else none
 |1,.s a,.s b=>some (eqL a b)
 |2,.b x,.b y=>some (x==y)
 |1,.fY ex,.s b=>cond (oK b ex) (some false) none
 |1,.s a,.fY ex=>cond (oK a ex) (some false) none
 |_,_,_=>none
def nf(ba:List Nat):List AV→List AV→Option Bool:=
 List.rec (fun l r=>match l,r with|[],[]=>some true|_,_=>none)
  (fun k _ ay l r=>match l,r with
   |x::xs,y::aZ=>match leafEq k x y,ay xs aZ with|some a,some b=>some (a&&b)|_,_=>none
   |_,_=>none) ba
abbrev ja:=Nat ⊕ List Nat
def keyEq(R:ja)(a b:AV):Option Bool:=
 match R with
 | .inl k=>leafEq k a b
 | .inr ba=>match a,b with
  | .ag x,.ag y=>nf ba x y
  |_,_=>none
def keySelf(R:ja)(a:AV):Bool:=
 match R,a with
 | .inl 1,.fY _=>true
 |R,a=>match keyEq R a a with|some _=>true|none=>false
def nP(R:ja)(k:AV)(es:List (AV×AV×Nat)):Option (Option AV):=
 List.rec (some none) (fun e _ ay=>match keyEq R k e.1 with|none=>none|some true=>some (some e.2.1)|some false=>ay) es
def oL(R:ja)(k v:AV)(es:List (AV×AV×Nat)):Option (Option (List (AV×AV×Nat))):=
 List.rec (some none) (fun e es ay=>match keyEq R k e.1 with
  |none=>none
  |some true=>some (some ((k,v,e.2.2)::es))
  |some false=>match ay with|none=>none|some none=>some none|some (some es)=>some (some (e::es))) es
def storeCells(c:List AV)(off:Nat)(v:List AV):Option (List AV):=
 if Nat.ble (off+v.length) c.length then some (c.take off++(v++c.drop (off+v.length))) else none
def wrapN(k:IntKind)(n:Int):Int:=
 match k,n with
 | .i64,.ofNat x=>cond (Nat.blt x 9223372036854775808) n (k.wrap n)
 |_,n=>k.wrap n
def Tx(op:BinOp)(k:IntKind)(x y:Int):Option Int:=
 let a:=BitVec.ofInt k.bits x
 let b:=BitVec.ofInt k.bits y
 match op with
 | .and=>some (k.wrap (a &&& b).toNat)
 | .or=>some (k.wrap (a ||| b).toNat)
 | .xor=>some (k.wrap (a ^^^ b).toNat)
 | .andNot=>some (k.wrap (a &&& ~~~b).toNat)
 |_=>none
def binI(op:BinOp)(k:IntKind)(x y:Int):Option AV:=
 match op with
 | .add=>some (.i k (wrapN k (x+y)))
 | .sub=>some (.i k (wrapN k (x-y)))
 | .mul=>some (.i k (wrapN k (x*y)))
 | .quo=>if y=0 then none else some (.i k (k.wrap (x.tdiv y)))
 | .rem=>if y=0 then none else some (.i k (x.tmod y))
 | .eql=>some (.b (decide (x=y)))
 | .neq=>some (.b (!decide (x=y)))
 | .lss=>some (.b (decide (x<y)))
 | .leq=>some (.b (decide (x≤y)))
 | .gtr=>some (.b (decide (y<x)))
 | .geq=>some (.b (decide (y≤x)))
 |op=>match Tx op k x y with|some n=>some (.i k n)|none=>none
def binS(op:BinOp)(x y:List Nat):Option AV:=
 match op with
 | .add=>if Nat.blt (x.length+y.length) 4611686018427387904 then some (.s (x++y)) else none
 | .eql=>some (.b (eqL x y))
 | .neq=>some (.b (!eqL x y))
 | .lss=>some (.b (fS x y))
 | .leq=>some (.b (!fS y x))
 | .gtr=>some (.b (fS y x))
 | .geq=>some (.b (!fS x y))
 |_=>none
def sxEq(op:BinOp)(a:List Nat)(ex:List (List Nat)):Option AV:=
 cond (oK a ex) (match op with| .eql=>some (.b false)| .neq=>some (.b true)|_=>none) none
def umOp(op:BinOp)(k:IntKind)(d j c:Nat):Option AV:=
 cond (Nat.blt 0 c&&(Nat.beq (d%c) 0&&(decide (k= .u8)||decide (k= .i64))))
  (match op with
   | .rem=>some (.i k (Int.ofNat (j%c)))
   | .quo=>some (.hq k (d/c) (j/c))
   |_=>none) none
def ivOp(op:BinOp)(bs hi c:Nat):Option AV:=
 match op with
 | .add=>cond (Nat.blt (hi+c) 4611686018427387904) (some (.iv (bs+c) (hi+c))) none
 | .mul=>cond (Nat.beq c 0) (some (.i .i64 (Int.ofNat 0))) none
 | .gtr=>cond (Nat.ble hi c) (some (.b false)) (cond (Nat.blt c bs) (some (.b true)) none)
 | .leq=>cond (Nat.ble hi c) (some (.b true)) (cond (Nat.blt c bs) (some (.b false)) none)
 | .eql=>cond (Nat.blt c bs||Nat.blt hi c) (some (.b false)) none
 | .neq=>cond (Nat.blt c bs||Nat.blt hi c) (some (.b true)) none
 |_=>none
def binop(op:BinOp)(x y:AV):Option AV:=
 match x,y with
 | .i k a,.i l b=>match op with
  | .shl=>if b<0 then none else some (.i k (k.wrap (a*2^(min b.toNat k.bits))))
  | .shr=>if b<0 then none else some (.i k (a.fdiv (2^(min b.toNat k.bits))))
  |op=>if k=l then binI op k a b else none
 | .s a,.s b=>binS op a b
 | .hq k d j,.i l (.ofNat c)=>if k=l then umOp op k d j c else none
 | .iv bs hi,.i .i64 (.ofNat c)=>ivOp op bs hi c
 | .i .i64 (.ofNat c),.iv bs hi=>(match op with| .add=>ivOp .add bs hi c|_=>none)
 | .iu hi,.i l (.ofNat c)=>if l= .i64∧c=40 then(match op with| .gtr=>some (.b hi)| .leq=>some (.b (!hi))|_=>none) else none
 | .s a,.fY ex=>sxEq op a ex
 | .fY ex,.s a=>sxEq op a ex
 |_,_=>none
def binopB(x y:AV):Option Bool:=
 match x,y with
 | .b c,.b d=>some (c==d)
 |_,_=>none
def Es:List Nat→Nat
 |[]=>1
 |d::ds=>Es ds*4+d
def Ty(f:Nat):Nat→List Nat:=Nat.rec (motive:=fun _=>Nat→List Nat) (fun _=>[]) (fun _ ay n=>cond (Nat.ble n 1) [] (Nat.mod n 4::ay (Nat.div n 4))) f
def isNilEq(kind:Nat)(x y:AV):Option Bool:=
 match kind,x,y with
 |0,.it _ _,.fb=>some false
 |1,.p (some _),.p none=>some false
 |1,.cG _ _,.p none=>some false
 |1,.p none,.p none=>some true
 |2,.f _ _ _,.iK=>some false
 |2,.iK,.iK=>some true
 |3,.J,.J=>some true
 |3,.al _ _ _ _ _,.J=>some false
 |3,.aD _ _ (_::_),.J=>some false
 |4,.m none,.m none=>some true
 |4,.m (some _),.m none=>some false
 |k,.ag x,.ag y=>cond (Nat.ble 10 k) (nf (Ty 40 (k-10)) x y) none
 |_,_,_=>none
def natOf:AV→Option Nat
 | .i _ (.ofNat n)=>some n
 |_=>none
def dw:AV:=.aK []
structure Fr where
 aW:aP AV
 defers:List (Nat ⊕ (AV×List AV)) -- pJ mark of a block,or a call
 eZ:Bool -- of a deferred call: 'recover' has d5H called
 deriving Inhabited
def Fr.put(ae:Fr)(d:Option Nat)(v:AV):Fr:=
 match d with
 |some d=>⟨ae.aW.set d v,ae.defers,ae.eZ⟩
 |none=>ae
def Fr.ng(ae:Fr)(d:Option Nat)(v:AV):Fr:=Option.rec (motive:=fun _=>Fr) ae (fun d=>⟨aP.Tw v (JL d) ae.aW,ae.defers,ae.eZ⟩) d
inductive gn where
 |normal|exit (id:Nat)|ret|panic (v:AV)
 deriving Inhabited
inductive c6 where
 |ok (v:AV)
 |err (v:AV)
 deriving Inhabited
structure Env where
 funcs:Nat→Option bV
 jm:Nat→Option AV
 pure:Nat→Bool
 spec:Nat→List AV→Option AV
 aT:Nat -- b7d deep values b7e looked at
 ext:Nat→Nat -- 1:d5I,2:d5J,3:d5K;0:none;7:b7a result,objects b7c,is known;8:maps.clone
 lE:Nat→List AV→Option (AV×List AO):=fun _ _=>none
def evalA(env:Env)(al:aP AV):az→Option AV
 | .t i=>al.get i
 | .c v=>some v
 | .g g=>match env.jm g with|some v=>some (.cG true v)|none=>none
def xM(env:Env)(al:aP AV)(x:az):Option AV:=
 az.rec (motive:=fun _=>Option AV) (fun i=>aP.Er (JL i) al) (fun v=>some v) (fun g=>match env.jm g with|some v=>some (.cG true v)|none=>none) x
inductive bG where
 |val (v:AV) (o:ad)
 |call (bB:AV) (args:List AV)
 |kh (bB:AV) (args:List AV)
 |panic (v:AV)
 |gJ (l:List (AV×ad)) -- one of b6Y
def jE{α β:Type}(f:α→Option (List β))(l:List α):Option (List β):=
 List.rec (motive:=fun _=>Option (List β)) (some []) (fun x t ay=>List.rec (motive:=fun _=>Option (List β)) (f x) (fun _ _ _=>match f x with|none=>none|some a=>match ay with|none=>none|some b=>some (a++b)) t) l
def gi{α β:Type}(r:Option (List α))(f:α→Option (List β)):Option (List β):=Option.rec (motive:=fun _=>Option (List β)) none (fun l=>jE f l) r
def jn(n:Nat)(off:Nat):AV:=.p (some (n,off))
def jW(aw:az→Option AV)(fl:Nat→Nat→Nat)(ps:List (Nat×Nat×az)):List AV→Option (List AV):=
 List.rec (fun c=>some c) (fun p _ ay c=>match aw p.2.2 with
  |none=>none
  |some v=>cond (Nat.beq v.cells.length p.2.1&&v.val) (match storeCells c (fl p.1 p.2.1) v.cells with|none=>none|some c=>ay c) none) ps
def hN(n:Nat)(z:List AV):List AV:=Nat.rec [] (fun _ ay=>z++ay) n
def bndO(aw:az→Option AV)(x:Option az)(d:Nat):Option Nat:=
 match x with
 |none=>some d
 |some x=>match aw x with|some v=>natOf v|none=>none
def v2(two:Bool)(v:AV)(ok:Bool):AV:=cond two (.aK [v,.b ok]) v
def nilOk:AV→Bool
 | .p (some _)=>true
 | .cG _ _=>true
 | .f _ _ _=>true
 | .it _ _=>true
 |_=>false
def cV{α:Type}(p:α→Bool)(l:List α):Bool:=List.rec true (fun x _ ay=>cond (p x) ay false) l
def newOf(o:ad)(x:AV):Option (List AV):=
 match x with
 | .s l=>some (l.map fun c=>AV.i .u8 (Int.ofNat c))
 |x=>readList o x
def appendO(floor:Nat)(o:ad)(R:Option Nat)(bytes:Nat)(s x:AV):Option (AV×ad):=
 match readList o s,newOf o x with
 |some old,some new=>
  cond (cV (conf R) old&&cV (conf R) new&&Nat.ble ((3*(old.length+new.length)+2000)*bytes) 281474976710656)
   (match new with
    |[]=>some (s,o)
    |_::_=>match s with
     | .al id off len fr cap=>
      if fr=R then
       match cap with
       |some c=>
        cond (Nat.ble (len+new.length) c)
         (if Nat.blt id floor then none else
         match o.get id with
         |some (.cells gp)=>match storeCells gp (off+len*shN R) (new.flatMap AV.cells) with
          |some bY=>some (.al id off (len+new.length) R cap,o.set id (.cells bY))
          |none=>none
         |_=>none)
         (some (.al o.next 0 (len+new.length) R none,o.push (.cells (old.flatMap AV.cells++new.flatMap AV.cells))))
       |none=>
        if Nat.blt id floor then none else
        if Nat.beq off 0 then
         some (.al o.next 0 (len+new.length) R none,(o.set id .dead).push (.cells (old.flatMap AV.cells++new.flatMap AV.cells)))
        else none
      else none
     | .J=>some (.al o.next 0 new.length R none,o.push (.cells (new.flatMap AV.cells)))
     | .jl _ fr _=>if fr=R then some (.al o.next 0 (old.length+new.length) R none,o.push (.cells (old.flatMap AV.cells++new.flatMap AV.cells))) else none
     |_=>none)
   none
 |_,_=>none
def sliceA(aw:az→Option AV)(hO:Option Nat)(x:AV)(bs hi da:Option az):Option AV:=
 match x with
 | .al id off len R cap=>
  if R=hO then
   match bndO aw bs 0,bndO aw hi len with
   |some l,some h=>
    if Nat.ble l h then
     match da with
     |some da=>match bndO aw (some da) 0 with
      |some k=>
       if Nat.ble h k&&Nat.ble k (cap.getD len) then some (.al id (if k=l then off else off+l*shN R) (h-l) R (some (k-l))) else none
      |none=>none
     |none=>match cap with
      |some c=>if Nat.ble h c then some (.al id (if c=l then off else off+l*shN R) (h-l) R (some (c-l))) else none
      |none=>if Nat.ble h len&&Nat.beq l 0 then some (.al id off h R none) else if Nat.ble h len&&Nat.blt l len then some (.al id (off+l*shN R) (h-l) R none) else if Nat.beq l len&&Nat.beq h len then some (.aD true R []) else none
    else none
   |_,_=>none
  else none
 | .J=>match bndO aw bs 0,bndO aw hi 0,bndO aw da 0 with
  |some 0,some 0,some 0=>some .J
  |_,_,_=>none
 | .aD I R xs=>if R=hO then
   match bndO aw bs 0,bndO aw hi xs.length,da with
   |some l,some h,none=>if Nat.ble l h&&Nat.ble h xs.length then some (.aD I R ((xs.drop l).take (h-l))) else none
   |some l,some h,some da=>match bndO aw (some da) 0 with
    |some k=>if Nat.beq l 0&&(Nat.beq h xs.length&&(Nat.beq k xs.length&&Nat.blt 0 xs.length)) then some (.jl I R xs) else none
    |none=>none
   |_,_,_=>none
  else none
 |_=>none
def lookupA(o:ad)(R:ja)(x k z:AV)(two:Bool):Option AV:=
 cond (keySelf R k)
  (match x with
  | .m none=>some (v2 two z false)
  | .m (some id)=>match o.get id with
   |some (.map es _)=>match nP R k es with
    |some (some v)=>some (v2 two v true)
    |some none=>some (v2 two z false)
    |none=>none
   |_=>none
  |_=>none) none
def capA(x:AV):Option Nat:=
 match x with
 | .J=>some 0
 | .al _ _ _ _ (some c)=>some c
 |_=>none
def lenA(o:ad)(k:Nat)(x:AV):Option Nat:=
 match k,x with
 |0,.s l=>some l.length
 |1,.J=>some 0
 |1,.al _ _ n _ _=>some n
 |1,.aD _ _ xs=>some xs.length
 |2,.m none=>some 0
 |2,.m (some id)=>match o.get id with|some (.map es _)=>some es.length|_=>none
 |_,_=>none
def calleeV(aw:az→Option AV)(c:q3):Option AV:=match c with| .fn f=>some (AV.f (.func f) [] [])| .val x=>aw x
def q6(o:ad)(R:Option Nat)(p:AV):Option AV:=
 match p with
 | .p (some (id,off))=>match o.get id with
  |some (.cells c)=>eA R (c.drop off)
  |_=>none
 | .cG _ v=>if conf R v then some v else none
 |_=>none
def fieldAddrA(off:Nat)(R:Option Nat)(x:AV):Option AV:=
 match x with
 | .p (some (id,I))=>some (.p (some (id,I+off)))
 | .cG ol (.ag cs)=>match eA R (cs.drop off) with|some v=>some (.cG ol v)|none=>none
 |_=>none
def idxSlA(hO:Option Nat)(x:AV)(j:Nat):Option AV:=
 match x with
 | .al id off len R _=>if Nat.blt j len&&decide (R=hO) then some (.p (some (id,off+j*shN R))) else none
 | .aD I R xs=>if R=hO then match nth xs j with|some v=>some (.cG I v)|none=>none else none
 |_=>none
def assertA(x:AV)(t:TypeId)(z:AV)(two:Bool):Option AV:=
 match x with
 | .it u v=>if u=t then some (v2 two v true) else cond two (some (v2 two z false)) none
 | .fb=>cond two (some (v2 two z false)) none
 |_=>none
def byteOf:AV→Option Nat
 | .i .u8 (.ofNat n)=>cond (Nat.blt n 256) (some n) none
 |_=>none
def kQ(n:Nat)(l:List Nat):Bool:=List.rec false (fun x _ ay=>cond (Nat.beq x n) true ay) l
def lF(seen:List Nat)(es:List (AV×AV×Nat)):List (AV×AV×Nat):=List.rec [] (fun e _ ay=>cond (kQ e.2.2 seen) ay (e::ay)) es
def oM(l:List Nat):Option Nat:=List.rec none (fun x _ ay=>match ay with|none=>some x|some y=>some y) l
def nQ(b:Nat)(es:List (AV×AV×Nat)):Option (AV×AV×Nat):=List.rec none (fun e _ ay=>cond (Nat.beq e.2.2 b) (some e) ay) es
def capO(floor:Nat)(o:ad)(x:AV):Option bG:=
 match x with
 | .al id off len R none=>cond (Nat.blt id floor) none (match o.get id with
  |some (.cells c)=>cond (Nat.beq c.length (off+len*shN R)) (some (.gJ ((List.range 12).map (fun k=>(AV.i .i64 (Int.ofNat (len+k)),o.set id (.gI c (k*shN R))))++[(AV.gH (len+12),o.set id (.gI c (12*shN R)))]))) none
  |_=>none)
 |_=>none
def sliceX(o:ad)(aw:az→Option AV)(hO:Option Nat)(x:AV)(bs hi da:Option az):Option bG:=
 match bs,hi,da with
 |none,some h,none=>match x,aw h with
  | .al id off len R none,some (.i .i64 (.ofNat k))=>match o.get id with
   |some (.gI c r)=>cond (decide (R=hO)&&(Nat.blt 0 (shN R)&&(Nat.ble len k&&Nat.ble (off+k*shN R) (c.length+r)))) (some (.val (.al id off k R none) o)) none
   |_=>none
  |_,_=>none
 |_,_,_=>none
def nR(o:ad)(id:Nat)(c:List AV)(r off:Nat)(aX:List AV):Option bG:=
 match(cond (Nat.ble c.length off&&Nat.ble (off+aX.length) (c.length+r)) (some c) (storeCells c off aX)) with
 |some c=>some (.val dw (o.set id (.gI c r)))
 |none=>none
def lenU(o:ad)(k:Nat)(x:AV):Option bG:=
 match k,x with
 |0,.fY _=>some (.gJ [(.iu true,o),(.iu false,o)])
 |1,.eN _ _=>some (.val (.gH 0) o)
 |_,_=>none
def opx(floor:Nat)(aw:az→Option AV)(o:ad)(op:AOp):Option bG:=
 match op with
 | .bU x=>match aw x with|some v=>some (.val v o)|none=>none
 | .pick c a b=>match aw c with
  |some (.b t)=>match aw (cond t a b) with|some v=>some (.val v o)|none=>none
  |_=>none
 | .alloc v=>some (.val (jn o.next 0) (o.push (.cells v.cells)))
 | .box x=>match aw x with|some v=>cond v.val (some (.val (jn o.next 0) (o.push (.cells v.cells)))) none|none=>none
 | .build z ps=>match jW aw (fun off _=>off) ps z with|some c=>some (.val (.ag c) o)|none=>none
 | .buildSlice R n z ps=>
  match jW aw (fun i fl=>i*fl) (ps.map fun p=>(p.1,shN R,p.2)) (hN n z) with
  |some c=>some (.val (.al o.next 0 n R (some n)) (o.push (.cells c)))
  |none=>none
 | .load R a=>match aw a with
  |some p=>match q6 o R p with|some v=>some (.val v o)|none=>none
  |none=>none
 | .store R a x=>match aw a,aw x with
  |some (.p (some (id,off))),some v=>
   if Nat.blt id floor then none else
   if conf R v then
    match o.get id with
    |some (.cells c)=>match storeCells c off v.cells with
     |some c=>some (.val dw (o.set id (.cells c)))
     |none=>none
    |some (.gI c r)=>nR o id c r off v.cells
    |_=>none
   else none
  |_,_=>none
 | .nilCheck x=>match aw x with
  |some v=>cond (nilOk v) (some (.val v o)) none
  |none=>none
 | .bin op x y=>match aw x,aw y with
  |some a,some b=>match binop op a b with|some v=>some (.val v o)|none=>none
  |_,_=>none
 | .xI neg x y=>match aw x,aw y with
  |some a,some b=>match binopB a b with|some v=>some (.val (.b (cond neg (!v) v)) o)|none=>none
  |_,_=>none
 | .la kind neg x y=>match aw x,aw y with
  |some a,some b=>match isNilEq kind a b with|some v=>some (.val (.b (cond neg (!v) v)) o)|none=>none
  |_,_=>none
 | .not x=>match aw x with|some (.b x)=>some (.val (.b !x) o)|_=>none
 | .neg x=>match aw x with|some (.i k n)=>some (.val (.i k (k.wrap (0-n))) o)|_=>none
 | .conv k x=>match aw x with|some (.i _ n)=>some (.val (.i k (wrapN k n)) o)|some (.hq _ d j)=>(match k with| .i64=>some (.val (.hq .i64 d j) o)|_=>none)|_=>none
 | .En t x=>match aw x with|some v=>some (.val (.it t v) o)|none=>none
 | .q4 fn a c=>match mapO aw a,mapO aw c with|some a,some c=>some (.val (.f fn a c) o)|_,_=>none
 | .mkMap=>some (.val (.m (some o.next)) (o.push (.map [] 0)))
 | .vG hO x bs hi da=>match aw x with
  |some x=>match sliceA aw hO x bs hi da with|some v=>some (.val v o)|none=>sliceX o aw hO x bs hi da
  |none=>none
 | .oJ x bs hi=>match aw x with
  |some (.s s)=>match bndO aw bs 0,bndO aw hi s.length with
   |some l,some h=>if Nat.ble l h&&Nat.ble h s.length then some (.val (.s ((s.drop l).take (h-l))) o) else none
   |_,_=>none
  |_=>none
 | .xJ n R x bs hi=>match aw x,bndO aw bs 0,bndO aw hi n with
  |some (.p (some (id,off))),some l,some h=>
   if Nat.ble l h&&Nat.ble h n then
    match o.get id with
    |some (.cells c)=>if Nat.ble (off+n*shN R) c.length then some (.val (.al id (if n=l then off else off+l*shN R) (h-l) R (some (n-l))) o) else none
    |_=>none
   else none
  |_,_,_=>none
 | .fieldAddr off R x=>match aw x with
  |some x=>match fieldAddrA off R x with|some v=>some (.val v o)|none=>none
  |none=>none
 | .field off R x=>match aw x with
  |some (.ag cs)=>match eA R (cs.drop off) with|some v=>some (.val v o)|none=>none
  |_=>none
 | .xK n R x i=>match aw x,aw i with
  |some x,some j=>match natOf j with
   |some j=>if Nat.blt j n then match fieldAddrA (j*shN R) R x with|some v=>some (.val v o)|none=>none else none
   |none=>none
  |_,_=>none
 | .di hO x i=>match aw x,aw i with
  |some x,some j=>match natOf j with
   |some j=>match idxSlA hO x j with|some v=>some (.val v o)|none=>none
   |none=>none
  |_,_=>none
 | .lD x i=>match aw x,aw i with
  |some (.s l),some j=>match natOf j with
   |some j=>match nth l j with|some c=>some (.val (.i .u8 (Int.ofNat c)) o)|none=>none
   |none=>none
  |_,_=>none
 | .JJ n R x i=>match aw x,aw i with
  |some (.ag cs),some j=>match natOf j with
   |some j=>if Nat.blt j n then match eA R (cs.drop (j*shN R)) with|some v=>some (.val v o)|none=>none else none
   |none=>none
  |_,_=>none
 | .lookup R x k z two=>match aw x,aw k with
  |some x,some k=>match lookupA o R x k z two with|some v=>some (.val v o)|none=>none
  |_,_=>none
 | .pK R x k v=>match aw x,aw k,aw v with
  |some (.m (some id)),some k,some v=>
   if Nat.blt id floor then none else
   match o.get id with
   |some (.map es cl)=>match keyEq R k k with
    |none=>none
    |some _=>match oL R k v es with
    |some (some es)=>some (.val dw (o.set id (.map es cl)))
    |some none=>some (.val dw (o.set id (.map (es++[(k,v,cl)]) (cl+1))))
    |none=>none
   |_=>none
  |_,_,_=>none
 | .JK x t z two=>match aw x with
  |some x=>match assertA x t z two with|some v=>some (.val v o)|none=>none
  |none=>none
 | .extract x i=>match aw x with
  |some (.aK l)=>match nth l i with|some v=>some (.val v o)|none=>none
  |_=>none
 | .call c args=>match calleeV aw c,mapO aw args with
  |some bB,some args=>some (.call bB args)
  |_,_=>none
 | .kh c args=>match calleeV aw c,mapO aw args with
  |some bB,some args=>some (.kh bB args)
  |_,_=>none
 | .panic x=>match aw x with|some (.it t v)=>some (.panic (.it t v))|_=>none
 | .len k x=>match aw x with
  |some x=>match lenA o k x with|some n=>some (.val (.i .i64 (Int.ofNat n)) o)|none=>lenU o k x
  |none=>none
 | .Eo n=>some (.val (.i .i64 (Int.ofNat n)) o)
 | .cap x=>match aw x with
  |some x=>match capA x with|some n=>some (.val (.i .i64 (Int.ofNat n)) o)|none=>capO floor o x
  |none=>none
 | .append R bytes s x=>match aw s,aw x with
  |some s,some x=>match appendO floor o R bytes s x with|some (v,o)=>some (.val v o)|none=>none
  |_,_=>none
 | .El x=>match aw x with
  |some (.s l)=>some (.val (.al o.next 0 l.length none none) (o.push (.cells (l.map fun c=>AV.i .u8 (Int.ofNat c)))))
  |_=>none
 | .Em x=>match aw x with
  |some x=>match readList o x with
   |some l=>match mapO byteOf l with
    |some l=>some (.val (.s l) o)
    |none=>none
   |none=>none
  |none=>none
 | .mkSlice R bytes z l c=>match aw l,aw c with
  |some (.i _ (.ofNat n)),some (.i _ (.ofNat m))=>
   cond (Nat.beq z.length (shN R)&&(Nat.ble n m&&(Nat.ble (bytes*m) 281474976710656&&Nat.ble m 281474976710656)))
    (some (.val (.al o.next 0 n R (some m)) (o.push (.cells (hN m z))))) none
  |some .J,some (.i _ (.ofNat m))=>
   cond (Nat.beq z.length (Nat.succ (shN R))&&(Nat.blt 0 m&&Nat.ble ((3*m+2000)*bytes) 281474976710656))
    (some (.val (.al o.next 0 m R none) (o.push (.cells (hN m z.tail))))) none
  |_,_=>none
 | .rangeMap x=>match aw x with
  |some (.m none)=>some (.val (jn o.next 0) (o.push (.mapIter none 0 [] 0)))
  |some (.m (some id))=>match o.get id with
   |some (.map _ cl)=>some (.val (jn o.next 0) (o.push (.mapIter (some id) cl [] cl)))
   |_=>none
  |_=>none
 | .sf x=>match aw x with
  |some (.p (some (it,0)))=>if Nat.blt it floor then none else
   match o.get it with
   |some (.mapIter none _ _ _)=>some (.val (.aK [.b false]) o)
   |some (.mapIter (some id) since seen gB)=>match o.get id with
    |some (.map es cl)=>
     cond (Nat.beq cl since&&Nat.beq gB since&&cV (fun(e:AV×AV×Nat)=>Nat.blt e.2.2 since) es)
      (match lF seen es with
       |[]=>some (.val (.aK [.b false]) o)
       |l=>some (.gJ (l.map fun e=>(.aK [.b true,e.1,e.2.1],o.set it (.mapIter (some id) since (seen++[e.2.2]) cl))))) none
    |_=>none
   |_=>none
  |_=>none
 | .entry x=>match aw x with
  |some (.p (some (it,0)))=>match o.get it with
   |some (.mapIter (some id) since seen gB)=>match o.get id with
    |some (.map es cl)=>cond (Nat.beq cl gB) (match oM seen with
     |some b=>match nQ b es with
      |some e=>some (.val (.aK [e.1,e.2.1]) o)
      |none=>none
     |none=>none) none
    |_=>none
   |_=>none
  |_=>none
 | .copy _ d x=>match aw d,aw x with
  |some (.al _ _ 0 _ _),some (.ag _)=>some (.val dw o)
  |some (.al id off (len+1) _ _),some (.ag z)=>match Nat.blt id floor,o.get id with
   |false,some (.cells c)=>match storeCells c off (hN (len+1) z) with
    |some c=>some (.val dw (o.set id (.cells c)))
    |none=>none
   |_,_=>none
  |some .J,some (.ag _)=>some (.val dw o)
  |some (.aD _ _ []),some (.ag _)=>some (.val dw o)
  |_,_=>none
 | .Ep da x y=>match aw x,aw y with
  |some (.i k a),some (.i l b)=>if k=l then some (.val (.i k (if da then(if b > a then b else a) else(if b<a then b else a))) o) else none
  |some (.gH n),some (.i .i64 (.ofNat j))=>cond (Bool.not da&&Nat.ble j n) (some (.val (.i .i64 (Int.ofNat j)) o)) none
  |some (.i .i64 (.ofNat j)),some (.gH n)=>cond (Bool.not da&&Nat.ble j n) (some (.val (.i .i64 (Int.ofNat j)) o)) none
  |_,_=>none
 |_=>none
abbrev JN:=Nat→(az→Option AV)→ad→Option bG
def b7f(x:az)(floor:Nat)(aw:az→Option AV)(o:ad):Option bG:=
  match aw x with|some v=>some (.val v o)|none=>none
def b7g(c:az)(a:az)(b:az)(floor:Nat)(aw:az→Option AV)(o:ad):Option bG:=
  match aw c with
  |some (.b t)=>match aw (cond t a b) with|some v=>some (.val v o)|none=>none
  |_=>none
def b7h(v:AV)(floor:Nat)(aw:az→Option AV)(o:ad):Option bG:=
  some (.val (jn o.next 0) (o.push (.cells v.cells)))
def b7i(x:az)(floor:Nat)(aw:az→Option AV)(o:ad):Option bG:=
  match aw x with|some v=>cond v.val (some (.val (jn o.next 0) (o.push (.cells v.cells)))) none|none=>none
def b7j(z:List AV)(ps:List (Nat×Nat×az))(floor:Nat)(aw:az→Option AV)(o:ad):Option bG:=
  match jW aw (fun off _=>off) ps z with|some c=>some (.val (.ag c) o)|none=>none
def b7k(R:Option Nat)(n:Nat)(z:List AV)(ps:List (Nat×az))(floor:Nat)(aw:az→Option AV)(o:ad):Option bG:=
  match jW aw (fun i fl=>i*fl) (ps.map fun p=>(p.1,shN R,p.2)) (hN n z) with
  |some c=>some (.val (.al o.next 0 n R (some n)) (o.push (.cells c)))
  |none=>none
def b7l(R:Option Nat)(a:az)(floor:Nat)(aw:az→Option AV)(o:ad):Option bG:=
  match aw a with
  |some p=>match q6 o R p with|some v=>some (.val v o)|none=>none
  |none=>none
def b7m(R:Option Nat)(a:az)(x:az)(floor:Nat)(aw:az→Option AV)(o:ad):Option bG:=
  match aw a,aw x with
  |some (.p (some (id,off))),some v=>
   if Nat.blt id floor then none else
   if conf R v then
    match o.get id with
    |some (.cells c)=>match storeCells c off v.cells with
     |some c=>some (.val dw (o.set id (.cells c)))
     |none=>none
    |some (.gI c r)=>nR o id c r off v.cells
    |_=>none
   else none
  |_,_=>none
def b7n(x:az)(floor:Nat)(aw:az→Option AV)(o:ad):Option bG:=
  match aw x with
  |some v=>cond (nilOk v) (some (.val v o)) none
  |none=>none
def b7o(op:BinOp)(x:az)(y:az)(floor:Nat)(aw:az→Option AV)(o:ad):Option bG:=
  match aw x,aw y with
  |some a,some b=>match binop op a b with|some v=>some (.val v o)|none=>none
  |_,_=>none
def b7p(neg:Bool)(x:az)(y:az)(floor:Nat)(aw:az→Option AV)(o:ad):Option bG:=
  match aw x,aw y with
  |some a,some b=>match binopB a b with|some v=>some (.val (.b (cond neg (!v) v)) o)|none=>none
  |_,_=>none
def b7q(kind:Nat)(neg:Bool)(x:az)(y:az)(floor:Nat)(aw:az→Option AV)(o:ad):Option bG:=
  match aw x,aw y with
  |some a,some b=>match isNilEq kind a b with|some v=>some (.val (.b (cond neg (!v) v)) o)|none=>none
  |_,_=>none
def b7r(x:az)(floor:Nat)(aw:az→Option AV)(o:ad):Option bG:=
  match aw x with|some (.b x)=>some (.val (.b !x) o)|_=>none
def b7s(x:az)(floor:Nat)(aw:az→Option AV)(o:ad):Option bG:=
  match aw x with|some (.i k n)=>some (.val (.i k (k.wrap (0-n))) o)|_=>none
def b7t(k:IntKind)(x:az)(floor:Nat)(aw:az→Option AV)(o:ad):Option bG:=
  match aw x with|some (.i _ n)=>some (.val (.i k (wrapN k n)) o)|some (.hq _ d j)=>(match k with| .i64=>some (.val (.hq .i64 d j) o)|_=>none)|_=>none
def b7u(t:TypeId)(x:az)(floor:Nat)(aw:az→Option AV)(o:ad):Option bG:=
  match aw x with|some v=>some (.val (.it t v) o)|none=>none
def b7v(fn:Fn)(a:List az)(c:List az)(floor:Nat)(aw:az→Option AV)(o:ad):Option bG:=
  match mapO aw a,mapO aw c with|some a,some c=>some (.val (.f fn a c) o)|_,_=>none
def b7w(floor:Nat)(aw:az→Option AV)(o:ad):Option bG:=
  some (.val (.m (some o.next)) (o.push (.map [] 0)))
def b7x(hO:Option Nat)(x:az)(bs:Option az)(hi:Option az)(da:Option az)(floor:Nat)(aw:az→Option AV)(o:ad):Option bG:=
  match aw x with
  |some x=>match sliceA aw hO x bs hi da with|some v=>some (.val v o)|none=>sliceX o aw hO x bs hi da
  |none=>none
def b7y(x:az)(bs:Option az)(hi:Option az)(floor:Nat)(aw:az→Option AV)(o:ad):Option bG:=
  match aw x with
  |some (.s s)=>match bndO aw bs 0,bndO aw hi s.length with
   |some l,some h=>if Nat.ble l h&&Nat.ble h s.length then some (.val (.s ((s.drop l).take (h-l))) o) else none
   |_,_=>none
  |_=>none
def b7z(n:Nat)(R:Option Nat)(x:az)(bs:Option az)(hi:Option az)(floor:Nat)(aw:az→Option AV)(o:ad):Option bG:=
  match aw x,bndO aw bs 0,bndO aw hi n with
  |some (.p (some (id,off))),some l,some h=>
   if Nat.ble l h&&Nat.ble h n then
    match o.get id with
    |some (.cells c)=>if Nat.ble (off+n*shN R) c.length then some (.val (.al id (if n=l then off else off+l*shN R) (h-l) R (some (n-l))) o) else none
    |_=>none
   else none
  |_,_,_=>none
def b7A(off:Nat)(R:Option Nat)(x:az)(floor:Nat)(aw:az→Option AV)(o:ad):Option bG:=
  match aw x with
  |some x=>match fieldAddrA off R x with|some v=>some (.val v o)|none=>none
  |none=>none
def b7B(off:Nat)(R:Option Nat)(x:az)(floor:Nat)(aw:az→Option AV)(o:ad):Option bG:=
  match aw x with
  |some (.ag cs)=>match eA R (cs.drop off) with|some v=>some (.val v o)|none=>none
  |_=>none
def b7C(n:Nat)(R:Option Nat)(x:az)(i:az)(floor:Nat)(aw:az→Option AV)(o:ad):Option bG:=
  match aw x,aw i with
  |some x,some j=>match natOf j with
   |some j=>if Nat.blt j n then match fieldAddrA (j*shN R) R x with|some v=>some (.val v o)|none=>none else none
   |none=>none
  |_,_=>none
def b7D(hO:Option Nat)(x:az)(i:az)(floor:Nat)(aw:az→Option AV)(o:ad):Option bG:=
  match aw x,aw i with
  |some x,some j=>match natOf j with
   |some j=>match idxSlA hO x j with|some v=>some (.val v o)|none=>none
   |none=>none
  |_,_=>none
def b7E(x:az)(i:az)(floor:Nat)(aw:az→Option AV)(o:ad):Option bG:=
  match aw x,aw i with
  |some (.s l),some j=>match natOf j with
   |some j=>match nth l j with|some c=>some (.val (.i .u8 (Int.ofNat c)) o)|none=>none
   |none=>none
  |_,_=>none
def b7F(n:Nat)(R:Option Nat)(x:az)(i:az)(floor:Nat)(aw:az→Option AV)(o:ad):Option bG:=
  match aw x,aw i with
  |some (.ag cs),some j=>match natOf j with
   |some j=>if Nat.blt j n then match eA R (cs.drop (j*shN R)) with|some v=>some (.val v o)|none=>none else none
   |none=>none
  |_,_=>none
def b7G(R:Nat ⊕ List Nat)(x:az)(k:az)(z:AV)(two:Bool)(floor:Nat)(aw:az→Option AV)(o:ad):Option bG:=
  match aw x,aw k with
  |some x,some k=>match lookupA o R x k z two with|some v=>some (.val v o)|none=>none
  |_,_=>none
def b7H(R:Nat ⊕ List Nat)(x:az)(k:az)(v:az)(floor:Nat)(aw:az→Option AV)(o:ad):Option bG:=
  match aw x,aw k,aw v with
  |some (.m (some id)),some k,some v=>
   if Nat.blt id floor then none else
   match o.get id with
   |some (.map es cl)=>match keyEq R k k with
    |none=>none
    |some _=>match oL R k v es with
    |some (some es)=>some (.val dw (o.set id (.map es cl)))
    |some none=>some (.val dw (o.set id (.map (es++[(k,v,cl)]) (cl+1))))
    |none=>none
   |_=>none
  |_,_,_=>none
def b7I(x:az)(t:TypeId)(z:AV)(two:Bool)(floor:Nat)(aw:az→Option AV)(o:ad):Option bG:=
  match aw x with
  |some x=>match assertA x t z two with|some v=>some (.val v o)|none=>none
  |none=>none
def b7J(x:az)(i:Nat)(floor:Nat)(aw:az→Option AV)(o:ad):Option bG:=
  match aw x with
  |some (.aK l)=>match nth l i with|some v=>some (.val v o)|none=>none
  |_=>none
def b7K(c:q3)(args:List az)(floor:Nat)(aw:az→Option AV)(o:ad):Option bG:=
  match calleeV aw c,mapO aw args with
  |some bB,some args=>some (.call bB args)
  |_,_=>none
def b7L(c:q3)(args:List az)(floor:Nat)(aw:az→Option AV)(o:ad):Option bG:=
  match calleeV aw c,mapO aw args with
  |some bB,some args=>some (.kh bB args)
  |_,_=>none
def b7M(x:az)(floor:Nat)(aw:az→Option AV)(o:ad):Option bG:=
  match aw x with|some (.it t v)=>some (.panic (.it t v))|_=>none
def b7N(k:Nat)(x:az)(floor:Nat)(aw:az→Option AV)(o:ad):Option bG:=
  match aw x with
  |some x=>match lenA o k x with|some n=>some (.val (.i .i64 (Int.ofNat n)) o)|none=>lenU o k x
  |none=>none
def b7O(n:Nat)(floor:Nat)(aw:az→Option AV)(o:ad):Option bG:=
  some (.val (.i .i64 (Int.ofNat n)) o)
def b7P(x:az)(floor:Nat)(aw:az→Option AV)(o:ad):Option bG:=
  match aw x with
  |some x=>match capA x with|some n=>some (.val (.i .i64 (Int.ofNat n)) o)|none=>capO floor o x
  |none=>none
def b7Q(R:Option Nat)(bytes:Nat)(s:az)(x:az)(floor:Nat)(aw:az→Option AV)(o:ad):Option bG:=
  match aw s,aw x with
  |some s,some x=>match appendO floor o R bytes s x with|some (v,o)=>some (.val v o)|none=>none
  |_,_=>none
def b7R(x:az)(floor:Nat)(aw:az→Option AV)(o:ad):Option bG:=
  match aw x with
  |some (.s l)=>some (.val (.al o.next 0 l.length none none) (o.push (.cells (l.map fun c=>AV.i .u8 (Int.ofNat c)))))
  |_=>none
def b7S(x:az)(floor:Nat)(aw:az→Option AV)(o:ad):Option bG:=
  match aw x with
  |some x=>match readList o x with
   |some l=>match mapO byteOf l with
    |some l=>some (.val (.s l) o)
    |none=>none
   |none=>none
  |none=>none
def b7T(R:Option Nat)(bytes:Nat)(z:List AV)(l:az)(c:az)(floor:Nat)(aw:az→Option AV)(o:ad):Option bG:=
  match aw l,aw c with
  |some (.i _ (.ofNat n)),some (.i _ (.ofNat m))=>
   cond (Nat.beq z.length (shN R)&&(Nat.ble n m&&(Nat.ble (bytes*m) 281474976710656&&Nat.ble m 281474976710656)))
    (some (.val (.al o.next 0 n R (some m)) (o.push (.cells (hN m z))))) none
  |some .J,some (.i _ (.ofNat m))=>
   cond (Nat.beq z.length (Nat.succ (shN R))&&(Nat.blt 0 m&&Nat.ble ((3*m+2000)*bytes) 281474976710656))
    (some (.val (.al o.next 0 m R none) (o.push (.cells (hN m z.tail))))) none
  |_,_=>none
def b7U(x:az)(floor:Nat)(aw:az→Option AV)(o:ad):Option bG:=
  match aw x with
  |some (.m none)=>some (.val (jn o.next 0) (o.push (.mapIter none 0 [] 0)))
  |some (.m (some id))=>match o.get id with
   |some (.map _ cl)=>some (.val (jn o.next 0) (o.push (.mapIter (some id) cl [] cl)))
   |_=>none
  |_=>none
def b7V(x:az)(floor:Nat)(aw:az→Option AV)(o:ad):Option bG:=
  match aw x with
  |some (.p (some (it,0)))=>if Nat.blt it floor then none else
   match o.get it with
   |some (.mapIter none _ _ _)=>some (.val (.aK [.b false]) o)
   |some (.mapIter (some id) since seen gB)=>match o.get id with
    |some (.map es cl)=>
     cond (Nat.beq cl since&&Nat.beq gB since&&cV (fun(e:AV×AV×Nat)=>Nat.blt e.2.2 since) es)
      (match lF seen es with
       |[]=>some (.val (.aK [.b false]) o)
       |l=>some (.gJ (l.map fun e=>(.aK [.b true,e.1,e.2.1],o.set it (.mapIter (some id) since (seen++[e.2.2]) cl))))) none
    |_=>none
   |_=>none
  |_=>none
def b7W(x:az)(floor:Nat)(aw:az→Option AV)(o:ad):Option bG:=
  match aw x with
  |some (.p (some (it,0)))=>match o.get it with
   |some (.mapIter (some id) since seen gB)=>match o.get id with
    |some (.map es cl)=>cond (Nat.beq cl gB) (match oM seen with
     |some b=>match nQ b es with
      |some e=>some (.val (.aK [e.1,e.2.1]) o)
      |none=>none
     |none=>none) none
    |_=>none
   |_=>none
  |_=>none
def b7X(_sh:Option Nat)(d:az)(x:az)(floor:Nat)(aw:az→Option AV)(o:ad):Option bG:=
  match aw d,aw x with
  |some (.al _ _ 0 _ _),some (.ag _)=>some (.val dw o)
  |some (.al id off (len+1) _ _),some (.ag z)=>match Nat.blt id floor,o.get id with
   |false,some (.cells c)=>match storeCells c off (hN (len+1) z) with
    |some c=>some (.val dw (o.set id (.cells c)))
    |none=>none
   |_,_=>none
  |some .J,some (.ag _)=>some (.val dw o)
  |some (.aD _ _ []),some (.ag _)=>some (.val dw o)
  |_,_=>none
def b7Y(da:Bool)(x:az)(y:az)(floor:Nat)(aw:az→Option AV)(o:ad):Option bG:=
  match aw x,aw y with
  |some (.i k a),some (.i l b)=>if k=l then some (.val (.i k (if da then(if b > a then b else a) else(if b<a then b else a))) o) else none
  |some (.gH n),some (.i .i64 (.ofNat j))=>cond (Bool.not da&&Nat.ble j n) (some (.val (.i .i64 (Int.ofNat j)) o)) none
  |some (.i .i64 (.ofNat j)),some (.gH n)=>cond (Bool.not da&&Nat.ble j n) (some (.val (.i .i64 (Int.ofNat j)) o)) none
  |_,_=>none
def Tz:JN:=fun _ _ _=>none
def pM(op:AOp):JN:=
 AOp.rec (motive:=fun _=>JN) b7f b7g b7h b7i b7j b7k b7l b7m b7n b7o b7p b7q b7r b7s b7t b7R b7S b7u b7v b7w b7T b7z b7x b7y b7A b7B b7C b7D b7E b7F b7G b7H b7U b7V b7W b7I b7J b7K b7L b7M b7Q b7N b7O b7P b7X b7Y Tz Tz op
def AOp.isRec(op:AOp):Bool:=
 AOp.rec (motive:=fun _=>Bool) (fun _=>false) (fun _ _ _=>false) (fun _=>false) (fun _=>false) (fun _ _=>false) (fun _ _ _ _=>false) (fun _ _=>false) (fun _ _ _=>false) (fun _=>false) (fun _ _ _=>false) (fun _ _ _=>false) (fun _ _ _ _=>false) (fun _=>false) (fun _=>false) (fun _ _=>false) (fun _=>false) (fun _=>false) (fun _ _=>false) (fun _ _ _=>false) false (fun _ _ _ _ _=>false) (fun _ _ _ _ _=>false) (fun _ _ _ _ _=>false) (fun _ _ _=>false) (fun _ _ _=>false) (fun _ _ _=>false) (fun _ _ _ _=>false) (fun _ _ _=>false) (fun _ _=>false) (fun _ _ _ _=>false) (fun _ _ _ _ _=>false) (fun _ _ _ _=>false) (fun _=>false) (fun _=>false) (fun _=>false) (fun _ _ _ _=>false) (fun _ _=>false) (fun _ _=>false) (fun _ _=>false) (fun _=>false) (fun _ _ _ _=>false) (fun _ _=>false) (fun _=>false) (fun _=>false) (fun _ _ _=>false) (fun _ _ _=>false) true false op
def wantedA(g:Option (Nat×Bool))(al:aP AV):Bool:=
 match g with
 |none=>true
 |some (d,w)=>match al.get d with
  |some (.b x)=>x==w
  |_=>false
def Et(g:Option (Nat×Bool))(al:aP AV):Bool:=
 Option.rec (motive:=fun _=>Bool) true (fun p=>match aP.Er (JL p.1) al with
  |some (.b x)=>x==p.2
  |_=>false) g
abbrev iM:=Nat→Option Nat→bc→Fr→ad→Option (List (gn×Fr×ad))
def resultOf(o:ad)(al:aP AV)(r:Nat×Option (Option Nat)):Option AV:=
 match al.get r.1,r.2 with
 |some v,none=>some v
 |some (.p (some (id,off))),some R=>match o.get id with
  |some (.cells c)=>eA R (c.drop off)
  |_=>none
 |_,_=>none
def resultsOf(o:ad)(al:aP AV)(rs:List (Nat×Option (Option Nat))):Option AV:=
 match mapO (resultOf o al) rs with
 |some [v]=>some v
 |some aX=>some (.aK aX)
 |none=>none
def sh(fn:bV)(args:List AV):Fr:=⟨aP.lay args 0 (aP.full fn.ntmps dw fn.ntmps),[],false⟩
def isFn:AV→Bool
 | .f (.func _) _ _=>true
 |_=>false
def pN(env:Env)(floor:Nat)(call:AV→List AV→ad→Option (c6×ad))(rc:Option AV)(nd:Bool)(ops:List aQ):Fr→ad→Option (gn×Fr×ad):=
 List.rec (fun ae o=>some (.normal,ae,o)) (fun I _ ay ae o=>
  cond (wantedA I.guard ae.aW)
   (cond I.op.isRec
    (match rc with
     |some v=>ay (Fr.put ⟨ae.aW,ae.defers,true⟩ I.dst (cond ae.eZ .fb v)) o
     |none=>none)
    (match pM I.op floor (evalA env ae.aW) o with
     |some (.val v o)=>ay (ae.put I.dst v) o
     |some (.call bB args)=>match call bB args o with
      |some (.ok v,o)=>ay (ae.put I.dst v) o
      |some (.err v,o)=>some (.panic v,ae,o)
      |none=>none
     |some (.kh bB args)=>cond (nd&&isFn bB) (ay (Fr.put ⟨ae.aW,.inr (bB,args)::ae.defers,ae.eZ⟩ I.dst dw) o) none
     |some (.panic v)=>some (.panic v,ae,o)
     |some (.gJ _)=>none
     |none=>none))
   (ay (ae.put I.dst dw) o)) ops
abbrev mc:=List (gn×Fr×ad)
abbrev ki:=AV→List AV→ad→Option (List (c6×ad))
def runOps(env:Env)(floor:Nat)(call:ki)(nd:Bool)(ops:List aQ):Fr→ad→Option mc:=
 List.rec (motive:=fun _=>Fr→ad→Option mc) (fun ae o=>some [(.normal,ae,o)]) (fun I _ ay ae o=>
  Bool.rec (motive:=fun _=>Option mc) (ay (ae.ng I.dst dw) o)
   (Option.rec (motive:=fun _=>Option mc) none (fun r=>bG.rec (motive:=fun _=>Option mc)
    (fun v o=>ay (ae.ng I.dst v) o)
    (fun bB args=>gi (call bB args o) (fun r=>match r with
     |(.ok v,o)=>ay (ae.ng I.dst v) o
     |(.err v,o)=>some [(.panic v,ae,o)]))
    (fun bB args=>cond (nd&&isFn bB) (ay (Fr.ng ⟨ae.aW,.inr (bB,args)::ae.defers,ae.eZ⟩ I.dst dw) o) none)
    (fun v=>some [(.panic v,ae,o)])
    (fun l=>jE (fun p=>ay (ae.ng I.dst p.1) p.2) l) r)
    (pM I.op floor (xM env ae.aW) o))
   (Et I.guard ae.aW)) ops
def AOp.ft:AOp→Bool
 | .store _ _ _| .pK _ _ _ _| .call _ _| .append _ _ _ _| .copy _ _ _| .mkSlice _ _ _ _ _| .El _| .rangeMap _| .sf _| .kh _ _| .panic _| .recover=>true
 |_=>false
def AOp.kA:AOp→Bool
 | .alloc _| .box _| .buildSlice _ _ _ _| .mkMap=>true
 |_=>false
def AOp.looks:AOp→Bool
 | .load _ _| .lookup _ _ _ _ _| .len _ _| .entry _| .Em _| .xJ _ _ _ _ _| .vG _ _ none (some _) none=>true
 |_=>false
def nS{α:Type}:Option α→List α
 |none=>[]
 |some x=>[x]
def AOp.opnds:AOp→List az
 | .bU x=>[x]| .pick c a b=>[c,a,b]| .alloc _=>[]| .box x=>[x]| .build _ ps=>ps.map (·.2.2)| .buildSlice _ _ _ ps=>ps.map (·.2)
 | .load _ a=>[a]| .store _ a x=>[a,x]| .nilCheck x=>[x]| .bin _ x y=>[x,y]| .xI _ x y=>[x,y]| .la _ _ x y=>[x,y]| .not x=>[x]| .neg x=>[x]| .conv _ x=>[x]
 | .El x=>[x]| .Em x=>[x]| .En _ x=>[x]| .q4 _ a c=>a++c| .mkMap=>[]| .mkSlice _ _ _ l c=>[l,c]
 | .xJ _ _ x l h=>x::(nS l++nS h)| .vG _ x l h m=>x::(nS l++(nS h++nS m))| .oJ x l h=>x::(nS l++nS h)
 | .fieldAddr _ _ x=>[x]| .field _ _ x=>[x]| .xK _ _ x i=>[x,i]| .di _ x i=>[x,i]| .lD x i=>[x,i]| .JJ _ _ x i=>[x,i]
 | .lookup _ x k _ _=>[x,k]| .pK _ m k v=>[m,k,v]| .rangeMap x=>[x]| .sf x=>[x]| .entry x=>[x]| .JK x _ _ _=>[x]| .extract x _=>[x]
 | .call c bP=>(match c with| .fn _=>[]| .val I=>[I])++bP| .kh c bP=>(match c with| .fn _=>[]| .val I=>[I])++bP
 | .panic x=>[x]| .append _ _ s x=>[s,x]| .len _ x=>[x]| .Eo _=>[]| .cap x=>[x]| .copy _ d s=>[d,s]| .Ep _ x y=>[x,y]| .recover=>[]| .bad=>[]
def az.tmp:az→Option Nat
 | .t i=>some i
 |_=>none
def aQ.reads(I:aQ):List Nat:=(match I.guard with|some (d,_)=>[d]|none=>[])++I.op.opnds.filterMap az.tmp
abbrev kj:=aQ×aP AV×AV
abbrev iN:=Fr×List ad×List kj×ad
def runDraws(env:Env)(floor:Nat)(call:ki)(ops:List aQ):Fr→List ad→List kj→ad→Option (List iN):=
 List.rec (fun ae bh ws o=>some [(ae,bh,ws,o)]) (fun I _ ay ae bh ws o=>
  cond (Et I.guard ae.aW)
   (match pM I.op floor (xM env ae.aW) o with
    |some (.val v ah)=>ay (ae.ng I.dst v) (o::bh) (match I.iL with|[]=>ws|_::_=>(I,ae.aW,v)::ws) ah
    |some (.call bB args)=>match call bB args o with
     |some (x::l)=>jE (fun r=>match r with|(.ok v,ah)=>ay (ae.ng I.dst v) (o::bh) ws ah|_=>none) (x::l)
     |_=>none
    |_=>none)
   (ay (ae.ng I.dst dw) (o::bh) ws o)) ops
def steady(env:Env)(floor:Nat)(bh:List ad)(w:kj):Bool:=
 cV (fun q=>match nth bh q with
  |some o=>match pM w.1.op floor (evalA env w.2.1) o with
   |some (.val v _)=>AV.eqb env.aT v w.2.2
   |_=>false
  |none=>false) w.1.iL
def swapOk(env:Env)(al:aP AV)(ops:List aQ):Bool:=
 match ops.reverse with
 |y::x::_=>match y.iL with
  |[]=>true
  |_::_=>match y.op with
   | .store _ b _=>match x.op with
    | .store _ a _=>match evalA env al a,evalA env al b with
     |some (.p (some (i,_))),some (.p (some (j,_)))=>!Nat.beq i j
     |_,_=>false
    |_=>false
   |_=>true
 |_=>true
def leave(floor:Nat)(call:AV→List AV→AV→ad→Option (Bool×ad))(ds:List (Nat ⊕ (AV×List AV))):Option AV→ad→Option (Option AV×ad):=
 List.rec (fun p o=>some (p,o)) (fun d _ ay p o=>
  match d with
  | .inl b=>if Nat.blt b floor then none else match o.get b with
   |some .cT=>ay p (o.set b .dead)
   |_=>none
  | .inr (bB,args)=>match call bB args (p.getD .fb) o with
   |some (r,o)=>ay (cond r none p) o
   |none=>none) ds
def tF(env:Env)(floor:Nat)(rc:AV)(c:bc):Fr→ad→Option (gn×Fr×ad):=
 bc.rec (motive:=fun _=>Fr→ad→Option (gn×Fr×ad))
  (fun ae o=>some (.normal,ae,o))
  (fun ops ae o=>pN env floor (fun _ _ _=>none) (some rc) false ops ae o)
  (fun _ _ _=>none)
  (fun _ _ JO JP ae o=>match JO ae o with
   |some (.normal,ae,o)=>JP ae o
   |r=>r)
  (fun c _ _ JO JP ae o=>match evalA env ae.aW c with
   |some (.b t)=>cond t (JO ae o) (JP ae o)
   |_=>none)
  (fun _ _ _ _ _=>none) (fun _ _ _ _=>none) (fun _ _ _ _=>none) (fun _ _ _ _ _ _ _ _=>none) (fun _ _ _=>none)
  (fun ae o=>some (.ret,ae,o)) (fun _ _=>none) c
def callD(env:Env)(floor:Nat)(bB:AV)(args:List AV)(p:AV)(o:ad):Option (Bool×ad):=
 match bB with
 | .f (.func g) first cap=>match env.funcs g with
  |some fn=>match fn.body with
   |some body=>cond (Nat.beq (first++args++cap).length fn.kz&&Nat.ble (first++args++cap).length fn.ntmps)
    (match tF env floor p body (sh fn (first++args++cap)) o with
     |some (.normal,ae,o)=>(match ae.defers,resultsOf o ae.aW fn.results with|[],some _=>some (ae.eZ,o)|_,_=>none)
     |some (.ret,ae,o)=>(match ae.defers,resultsOf o ae.aW fn.results with|[],some _=>some (ae.eZ,o)|_,_=>none)
     |_=>none) none
   |none=>none
  |none=>none
 |_=>none
def AT(e:gn):Option AV:=match e with| .panic v=>some v|_=>none
def endF(env:Env)(floor:Nat)(fn:bV)(r:gn×Fr×ad):Option (List (c6×ad)):=
 match r with
 |(.exit _,_,_)=>none
 |(e,ae,o)=>
  match leave floor (callD env floor) ae.defers (AT e) o with
  |none=>none
  |some (some v,o)=>some [(.err v,o)]
  |some (none,o)=>match resultsOf o ae.aW fn.results with
   |some v=>some [(.ok v,o)]
   |none=>none
def runF(env:Env)(ay:iM)(floor g:Nat)(args:List AV)(o:ad):Option (List (c6×ad)):=
 match env.funcs g with
 |none=>none
 |some fn=>match fn.body with
  |none=>none
  |some body=>
   cond (Nat.beq args.length fn.kz&&Nat.ble args.length fn.ntmps)
    (gi (ay floor none body (sh fn args) o) (endF env floor fn))
    none
def xN(c:Nat)(l:List Nat):Nat→Int:=List.rec (motive:=fun _=>Nat→Int) (fun _=>-1) (fun x _ ay k=>cond (Nat.beq x c) (Int.ofNat k) (ay (k+1))) l
def vJ(c:Nat)(l:List Nat):Nat:=List.rec 0 (fun x _ ay=>cond (Nat.beq x c) (Nat.succ ay) ay) l
def extRow(n:Nat)(args:List AV):Option AV:=
 match n,args with
 |1,[.s l,.i .u8 (.ofNat c)]=>cond (Nat.blt c 256) (some (.i .i64 (xN c l 0))) none
 |2,[.s a,.s b]=>some (.i .i64 (cond (fS a b) (-1) (cond (eqL a b) 0 1)))
 |3,[.s l,.i .u8 (.ofNat c)]=>cond (Nat.blt c 256) (some (.i .i64 (Int.ofNat (vJ c l)))) none
 |_,_=>none
def vK(n base:Nat)(v1:AV)(y:c6×ad):Bool:=
 match y with
 |(.ok w,o)=>(match freeze o base n w with|some bn=>AV.eqb n bn v1|none=>false)
 |(.err _,_)=>false
def joinF(n base:Nat)(l:List (c6×ad)):Option AV:=
 match l with
 |[]=>none
 |x::t=>match x with
  |(.err _,_)=>none
  |(.ok v,o)=>match freeze o base n v with
   |none=>none
   |some v1=>cond (cV (vK n base v1) t) (some v1) none
def vL(N:Nat)(v:AV):AV:=
 match v with
 | .al id off len R cap=>.al (id+N) off len R cap
 |v=>v
def q7:AV→Bool
 | .s _| .i _ _| .b _| .J| .al _ _ _ _ _=>true
 |_=>false
def AU(N:Nat)(v:AV):AV:=
 match v with
 | .ag l=>.ag (l.map (vL N))
 |v=>vL N v
def xO(N:Nat)(v:AV):AV:=
 match v with
 | .aK l=>.aK (l.map (AU N))
 |v=>AU N v
def tG:AV→Bool
 | .ag l=>cV q7 l
 |v=>q7 v
def xP:AV→Bool
 | .aK l=>cV tG l
 |v=>tG v
def AW(N:Nat)(I:AO):AO:=
 match I with
 | .cells c=>.cells (c.map (vL N))
 |_=>.dead
def pO(N:Nat)(os:List AO):ad→ad:=List.rec (fun o=>o) (fun I _ ay o=>ay (o.push (AW N I))) os
def si:List AV→Option (List (List Nat)):=List.rec (some []) fun x _ ay=>match x,ay with
 | .s l,some r=>some (l::r)
 |_,_=>none
def vM(a:List Nat):List (List Nat)→List (List Nat):=List.rec [a] fun b l ay=>cond (fS b a) (b::ay) (a::b::l)
def jF:List (List Nat)→List (List Nat):=List.rec [] fun a _ ay=>vM a ay
def mclE(floor k:Nat)(args:List AV)(o:ad):Option (List (c6×ad)):=
 match k,args with
 |8,[.it t (.m (some r))]=>match o.get r with
  |some (.map es clock)=>some [(.ok (.it t (.m (some o.next))),o.push (.map es clock))]
  |_=>none
 |9,[.J]=>some [(.ok (.aK []),o)]
 |9,[.al id 0 len none _]=>match o.get id with
  |some (.cells c)=>match si c with
   |some l=>match Nat.ble floor id&&(Nat.beq len l.length&&Nat.blt len 4611686018427387904) with
    |true=>some [(.ok (.aK []),o.set id (.cells ((jF l).map .s)))]
    |false=>none
   |none=>none
  |_=>none
 |_,_=>none
def callF(env:Env)(ay:iM)(floor g:Nat)(args:List AV)(o:ad):Option (List (c6×ad)):=
 match env.ext g with
 |0=>
  cond (env.pure g)
   (match(match mapO (bW o env.aT) args with|some aO=>env.spec g aO|none=>none) with
    |some r=>some [(.ok r,o)]
    |none=>match runF env ay o.next g args o with
     |some l=>match joinF env.aT o.next l with
      |some v=>some [(.ok v,o)]
      |none=>none
     |none=>none)
   (runF env ay floor g args o)
 |k=>match extRow k args with
  |some v=>some [(.ok v,o)]
  |none=>match(match mapO (bW o env.aT) args with|some aO=>env.lE g aO|none=>none) with
   |some (v,os)=>some [(.ok (xO o.next v),pO o.next os o)]
   |none=>mclE floor k args o
def layAll(ps:List Nat):List AV→aP AV→aP AV:=
 List.rec (fun _ al=>al) (fun p _ ay args al=>match args with|[]=>al|a::args=>ay args (al.set p a)) ps
def endRound(o:ad)(l:Nat)(jump:Option bc):Option (c6×ad):=
 match o.get l with
 |some (.loop _ _ al ps bP b d)=>match jump with
  |none=>some (.ok (.b true),o.set l (.loop .ready none al ps bP b d))
  |some c=>some (.ok (.b false),o.set l (.loop .done (some c) al ps bP b d))
 |_=>none
def roundEnd(l:Nat)(r:gn×Fr×ad):Option (List (c6×ad)):=
 match r with
 |(.normal,_,o)=>(endRound o l none).map fun x=>[x]
 |(.ret,_,o)=>(endRound o l (some .ret)).map fun x=>[x]
 |(.exit id,_,o)=>(endRound o l (some (.exit id))).map fun x=>[x]
 |_=>none
def roundMid(ay:iM)(floor l:Nat)(b:bc)(r:gn×Fr×ad):Option (List (c6×ad)):=
 match r with
 |(.normal,ae,o)=>match o.get l with
  |some (.loop .ready h5 lG iO fT b' e5)=>gi (ay floor (some l) b ae (o.set l (.loop .busy h5 lG iO fT b' e5))) (roundEnd l)
  |_=>none
 |_=>none
def JQ(ay:iM)(floor l:Nat)(args:List AV)(o:ad):Option (List (c6×ad)):=
 if Nat.blt l floor then none else
 match o.get l with
 |some (.loop .ready _ al ps bP b _)=>
  cond (Nat.beq ps.length args.length)
   (gi (ay floor (some l) bP ⟨layAll ps args al,[],false⟩ o) (roundMid ay floor l b)) none
 |_=>none
def callV(env:Env)(ay:iM)(floor:Nat)(bB:AV)(args:List AV)(o:ad):Option (List (c6×ad)):=
 match bB with
 | .f (.func g) first cap=>callF env ay floor g (first++args++cap) o
 | .f (.yield l) _ _=>JQ ay floor l args o
 |_=>none
def xQ(aH:Option Nat)(ae:Fr)(o:ad):Option (Nat×ad×List (Nat ⊕ (AV×List AV))):=
 match aH with
 |some l=>match o.get l with
  |some (.loop _ _ _ _ _ _ d)=>some (d,o,ae.defers)
  |_=>none
 |none=>some (o.next,o.push .cT,.inl o.next::ae.defers)
def xR(ay:iM)(floor:Nat)(aH:Option Nat)(b:bc)(r:gn×Fr×ad):Option mc:=
 match r with
 |(.normal,ae,o)=>ay floor aH b ae o
 |r=>some [r]
def JR(id:Nat)(r:gn×Fr×ad):Option mc:=
 match r with
 |(.exit j,ae,o)=>cond (Nat.beq j id) (some [(.normal,ae,o)]) (some [(.exit j,ae,o)])
 |r=>some [r]
def rangeK(ay:iM)(floor:Nat)(aH:Option Nat)(ae:Fr)(ds:List (Nat ⊕ (AV×List AV)))(l:Nat)(r:c6×ad):Option mc:=
 match r with
 |(.ok _,fJ)=>match fJ.get l with
  |some (.loop st h5 lG iO fT b' e5)=>
   match st with
   | .busy=>none
   |_=>match h5 with
    |none=>some [(.normal,⟨ae.aW,ds,ae.eZ⟩,fJ.set l (.loop .exhausted h5 lG iO fT b' e5))]
    |some c=>ay floor aH c ⟨ae.aW,ds,ae.eZ⟩ (fJ.set l (.loop .exhausted h5 lG iO fT b' e5))
  |_=>none
 |_=>none
def drawn(env:Env)(floor:Nat)(ops:List aQ)(x:iN):Option (gn×Fr×ad):=
 cond (x.2.2.1.all (steady env floor (x.2.2.2::x.2.1).reverse)&&swapOk env x.1.aW ops) (some (.normal,x.1,x.2.2.2)) none
def step(env:Env)(ay:iM):iM:=fun floor aH c ae o=>
 match c with
 | .skip=>some [(.normal,ae,o)]
 | .region ops=>runOps env floor (callV env ay floor) aH.isNone ops ae o
 | .draw ops=>match runDraws env floor (callV env ay floor) ops ae [] [] o with
  |some l=>mapO (drawn env floor ops) l
  |none=>none
 | .seq a b=>gi (ay floor aH a ae o) (xR ay floor aH b)
 | .cond c a b=>match evalA env ae.aW c with
  |some (.b t)=>ay floor aH (cond t a b) ae o
  |_=>none
 | .block id a=>gi (ay floor aH a ae o) (JR id)
 | .scope a=>ay floor aH a ae o
 | .loop a=>gi (ay floor aH a ae o) (xR ay floor aH (.loop a))
 | .exit id=>some [(.exit id,ae,o)]
 | .ret=>some [(.ret,ae,o)]
 | .rangeFunc f ps bP b=>
  if Nat.blt o.next floor then none else
  match evalA env ae.aW f with
  |some (.f (.func g) first cap)=>
   match xQ aH ae o with
   |none=>none
   |some (d,bk,ds)=>
    match env.ext g with
    |0=>gi (callF env ay floor g (first++AV.f (.yield bk.next) [] []::cap) (bk.push (.loop .ready none ae.aW ps bP b d))) (rangeK ay floor aH ae ds bk.next)
    |_=>none
  |_=>none
 | .bad=>none
abbrev nh:=Env→iM→Nat→Option Nat→Fr→ad→Option (List (gn×Fr×ad))
def b7Z:nh:=fun _ _ _ _ ae o=>some [(.normal,ae,o)]
def b8a(ops:List aQ):nh:=fun env ay floor aH ae o=>runOps env floor (callV env ay floor) aH.isNone ops ae o
def b8b(ops:List aQ):nh:=fun env ay floor _ ae o=>match runDraws env floor (callV env ay floor) ops ae [] [] o with
  |some l=>mapO (drawn env floor ops) l
  |none=>none
def b8c(a b:bc):nh:=fun _ ay floor aH ae o=>gi (ay floor aH a ae o) (xR ay floor aH b)
def b8d(c:az)(a b:bc):nh:=fun env ay floor aH ae o=>match xM env ae.aW c with
  |some (.b t)=>ay floor aH (cond t a b) ae o
  |_=>none
def b8e(id:Nat)(a:bc):nh:=fun _ ay floor aH ae o=>gi (ay floor aH a ae o) (JR id)
def b8f(a:bc):nh:=fun _ ay floor aH ae o=>gi (ay floor aH a ae o) (xR ay floor aH (.loop a))
def b8g(a:bc):nh:=fun _ ay floor aH ae o=>ay floor aH a ae o
def b8h(id:Nat):nh:=fun _ _ _ _ ae o=>some [(.exit id,ae,o)]
def b8i:nh:=fun _ _ _ _ ae o=>some [(.ret,ae,o)]
def b8j(f:az)(ps:List Nat)(bP b:bc):nh:=fun env ay floor aH ae o=>step env ay floor aH (.rangeFunc f ps bP b) ae o
def b8k:nh:=fun _ _ _ _ _ _=>none
def b8l(c:bc):nh:=
 bc.rec (motive:=fun _=>nh) b7Z b8a b8b (fun a b _ _=>b8c a b) (fun c a b _ _=>b8d c a b) (fun id a _=>b8e id a) (fun a _=>b8f a) (fun a _=>b8g a) (fun f ps a b _ _=>b8j f ps a b) b8h b8i b8k c
def TA(env:Env)(ay:iM):iM:=fun floor aH c ae o=>b8l c env ay floor aH ae o
def exec(env:Env)(n:Nat):iM:=Nat.rec (motive:=fun _=>iM) (fun _ _ _ _ _=>none) (fun _ ay=>TA env ay) n
def TB(env:Env)(n g:Nat)(args:List AV):Option AV:=
 match runF env (exec env n) 0 g args ⟨.nil,0⟩ with
 |some l=>joinF env.aT 0 l
 |none=>none
def jb(s:ByteArray):List Nat:=s.data.toList.map (·.toNat)
def ofLeaf:Value→Option AV
 | .bool b=>some (.b b)
 | .int k n=>some (.i k n)
 | .string s=>some (.s (jb s))
 | .pointer none=>some (.p none)
 | .slice none 0 0=>some .J
 | .map none=>some (.m none)
 | .nilFunc=>some .iK
 | .nilIface=>some .fb
 |_=>none
def mapOL{α β:Type}(f:α→Option β):List α→Option (List β)
 |[]=>some []
 |x::xs=>match f x,mapOL f xs with
  |some y,some aZ=>some (y::aZ)
  |_,_=>none
def ofValue:Value→Option AV
 | .agg l=>match mapOL ofLeaf l.toList with|some l=>some (.ag l)|none=>none
 | .iface t v=>match ofLeaf v with|some v=>some (.it t v)|none=>none
 |v=>ofLeaf v
section
variable (P:Program)
def shapeOf(t:TypeId):Option (Option Nat):=
 match P.underlying t,P.info? t with
 |some (.struct _),some i=>some (some i.size)
 |some (.array _ _),some i=>some (some i.size)
 |some (.struct _),none=>none
 |some (.array _ _),none=>none
 |some _,some i=>if i.size=1 then some none else none
 |_,_=>none
def zeroOf(t:TypeId):Option AV:=
 match P.info? t with
 |some i=>match i.zero with
  |some v=>ofValue v
  |none=>none
 |none=>none
def opdOf:Operand→Option az
 | .tmp t=>some (.t t)
 | .const v=>match ofValue v with|some v=>some (.c v)|none=>none
 | .global g=>some (.g g)
 | .func f=>some (.c (.f (.func f) [] []))
def vN(l:List Operand):Option (List az):=mapOL opdOf l
def opdO:Option Operand→Option (Option az)
 |none=>some none
 |some x=>match opdOf x with|some x=>some (some x)|none=>none
def fieldOf(t:TypeId)(i:Nat):Option (Nat×Option Nat):=
 match P.underlying t with
 |some (.struct fs)=>match fs[i]? with
  |some f=>match shapeOf P f.type with
   |some R=>if shN R=0 then none else some (f.offset,R)
   |none=>none
  |none=>none
 |_=>none
def elemOf'(t:TypeId):Option (TypeId×Option Nat):=
 match P.underlying t with
 |some (.slice e)=>match shapeOf P e with|some R=>some (e,R)|none=>none
 |_=>none
def calleeOf:Callee→Option q3
 | .value (.func f)=>some (.fn f)
 | .value x=>match opdOf x with|some x=>some (.val x)|none=>none
 |_=>none
def isU8(t:TypeId):Bool:=match P.underlying t with|some (.int .u8)=>true|_=>false
def leafKind(t:TypeId):Option Nat:=
 match P.underlying t with
 |some (.int _)=>some 0
 |some .string=>some 1
 |some .bool=>some 2
 |_=>none
def keyOk(t:TypeId):Option (Nat ⊕ List Nat):=
 match leafKind P t with
 |some k=>some (.inl k)
 |none=>
  match P.underlying t with
  |some (.struct fs)=>if !P.stoodInHeld t&&fs.toList.zipIdx.all (fun(f,i)=>decide (f.name≠ "_")&&decide (f.offset=i)&&decide (shapeOf P f.type=some none)) then
    (mapOL (fun f=>leafKind P f.type) fs.toList).map .inr else none
  |_=>none
def isInt(t:TypeId):Bool:=match P.underlying t with|some (.int _)=>true|_=>false
def isText(t:TypeId):Bool:=match P.underlying t with|some (.slice _)=>true|some .string=>true|_=>false
def flatS:Nat→List Field→Option (List Nat)
 |_,[]=>some []
 |i,f::fs=>
  if f.name≠ "_" ∧f.offset=i then
   match leafKind P f.type with
   |some k=>if shapeOf P f.type=some none then(flatS (i+1) fs).map fun l=>k::l else none
   |none=>match keyOk P f.type with
    |some (.inr ba)=>if shapeOf P f.type=some (some ba.length) then(flatS (i+ba.length) fs).map fun l=>ba++l else none
    |_=>none
  else none
def stK(t:TypeId):Option Nat:=
 match P.underlying t with
 |some (.struct fs)=>if P.stoodInHeld t=true then none else match flatS P 0 fs.toList with
  |some ba=>if Ty 40 (Es ba)=ba∧P.eqGuardType P.depth t=false then some (10+Es ba) else none
  |none=>none
 |_=>none
def cop(I:Oper):Option AOp:=
 match I.op with
 | .move x=>(opdOf x).map .bU
 | .assign x=>(opdOf x).map .bU
 | .pick c a b=>do return .pick (←opdOf c) (←opdOf a) (←opdOf b)
 | .alloc e=>(zeroOf P e).map .alloc
 | .box _ x=>(opdOf x).map .box
 | .build t ps=>do
  let .ag z ←zeroOf P t|none
  match P.underlying t with
  |some (.struct fs)=>
   if fs.any (fun f=>(P.info? f.type).isNone) then none else
   let l ←mapOL (fun(p:Nat×Operand)=>match fieldOf P t p.1,opdOf p.2 with|some (off,R),some x=>some (off,shN R,x)|_,_=>none) ps.toList
   return .build z l
  |some (.array _ e)=>do
   let R ←shapeOf P e
   let l ←mapOL (fun(p:Nat×Operand)=>match opdOf p.2 with|some x=>some (p.1*shN R,shN R,x)|none=>none) ps.toList
   return .build z l
  |_=>none
 | .buildSlice t n ps=>do
  let(e,R) ←elemOf' P t
  let z ←zeroOf P e
  let l ←mapOL (fun(p:Nat×Operand)=>match opdOf p.2 with|some x=>some (p.1,x)|none=>none) ps.toList
  if n*shN R≤16777216∧z.cells.length=shN R then return .buildSlice R n z.cells l else none
 | .insert t m k v| .mapUpdate t m k v=>
  match P.underlying t with
  |some (.map lH _)=>do return .pK (←keyOk P lH) (←opdOf m) (←opdOf k) (←opdOf v)
  |_=>none
 | .load t a=>do return .load (←shapeOf P t) (←opdOf a)
 | .store t a v=>do return .store (←shapeOf P t) (←opdOf a) (←opdOf v)
 | .nilCheck x=>(opdOf x).map .nilCheck
 | .binOp op t x y _=>do
  let x ←opdOf x;let y ←opdOf y
  match P.underlying t,op with
  |some (.int _),_=>return .bin op x y
  |some .string,_=>return .bin op x y
  |some .bool,.eql=>return .xI false x y
  |some .bool,.neq=>return .xI true x y
  |some (.interface _),.eql=>return .la 0 false x y
  |some (.interface _),.neq=>return .la 0 true x y
  |some (.pointer _),.eql=>return .la 1 false x y
  |some (.pointer _),.neq=>return .la 1 true x y
  |some (.func _ _ _),.eql=>return .la 2 false x y
  |some (.func _ _ _),.neq=>return .la 2 true x y
  |some (.slice _),.eql=>return .la 3 false x y
  |some (.slice _),.neq=>return .la 3 true x y
  |some (.map _ _),.eql=>return .la 4 false x y
  |some (.map _ _),.neq=>return .la 4 true x y
  |some (.struct _),.eql=>(stK P t).map fun k=>.la k false x y
  |some (.struct _),.neq=>(stK P t).map fun k=>.la k true x y
  |_,_=>none
 | .unOp .not _ x=>(opdOf x).map .not
 | .unOp .neg _ x=>(opdOf x).map .neg
 | .unOp _ _ _=>none
 | .convert s d x=>
  match P.underlying s,P.underlying d with
  |some (.int _),some (.int k)=>(opdOf x).map (.conv k)
  |some .string,some (.slice e)=>if isU8 P e then(opdOf x).map .El else none
  |some (.slice e),some .string=>if isU8 P e then(opdOf x).map .Em else none
  |_,_=>none
 | .makeInterface t x=>match P.underlying t with
  |some (.interface _)=>none
  |some _=>(opdOf x).map (.En t)
  |none=>none
 | .makeFunc fn a c=>match fn with
  | .func f=>do return .q4 (.func f) (←vN a.toList) (←vN c.toList)
  |_=>none
 | .makeMap t r=>match P.underlying t,r with
  |some (.map _ _),none=>some .mkMap
  |some (.map _ _),some (.const (.int _ _))=>some .mkMap
  |_,_=>none
 | .makeSlice t l c=>do
  let(e,R) ←elemOf' P t
  let z ←zeroOf P e
  let i ←P.info? e
  if z.cells.length=shN R then return .mkSlice R i.bytes z.cells (←opdOf l) (←opdOf c) else none
 | .slice t x l h m=>do
  let l ←opdO l;let h ←opdO h;let m ←opdO m
  match P.underlying t with
  |some (.array n e)=>match m with
   |none=>return .xJ n (←shapeOf P e) (←opdOf x) l h
   |some _=>none
  |some (.slice e)=>match shapeOf P e with
   |some R=>if m.isSome∧h.isNone then none else return .vG R (←opdOf x) l h m
   |none=>none
  |some .string=>match m with
   |none=>return .oJ (←opdOf x) l h
   |some _=>none
  |_=>none
 | .fieldAddr t x i=>do
  let(off,R) ←fieldOf P t i
  return .fieldAddr off R (←opdOf x)
 | .field t x i=>do
  let(off,R) ←fieldOf P t i
  return .field off R (←opdOf x)
 | .indexAddr t x i=>
  match P.underlying t with
  |some (.array n e)=>do return .xK n (←shapeOf P e) (←opdOf x) (←opdOf i)
  |some (.slice e)=>do return .di (←shapeOf P e) (←opdOf x) (←opdOf i)
  |_=>none
 | .index t x i=>
  match P.underlying t with
  |some (.array n e)=>do return .JJ n (←shapeOf P e) (←opdOf x) (←opdOf i)
  |some .string=>do return .lD (←opdOf x) (←opdOf i)
  |_=>none
 | .lookup t x k ok=>
  match P.underlying t with
  |some (.map lH e)=>do return .lookup (←keyOk P lH) (←opdOf x) (←opdOf k) (←zeroOf P e) ok
  |_=>none
 | .range t x=>match P.underlying t with
  |some (.map _ _)=>(opdOf x).map .rangeMap
  |_=>none
 | .next x false=>(opdOf x).map .sf
 | .entry x=>(opdOf x).map .entry
 | .typeAssert x _ t ok=>
  match P.underlying t with
  |some (.interface _)=>none
  |some _=>do return .JK (←opdOf x) t (←zeroOf P t) ok
  |none=>none
 | .extract x i=>do return .extract (←opdOf x) i
 | .call {callee:=.builtin b,args,argTypes}=>
  match b,args.toList,argTypes.toList with
  | .append,[s,x],[t,u]=>do
   let(e,R) ←elemOf' P t
   let i ←P.info? e
   let z ←zeroOf P e
   if isText P u∧i.bytes≠0∧z.cells.length=shN R then return .append R i.bytes (←opdOf s) (←opdOf x)
   else if isInt P u∧i.bytes≠0∧z.cells.length=shN R∧0<shN R then return .mkSlice R i.bytes (.fb::z.cells) (←opdOf s) (←opdOf x) else none
  | .len,[x],[t]=>match P.underlying t with
   |some (.array n _)=>some (.Eo n)
   |some .string=>(opdOf x).map (.len 0)
   |some (.slice _)=>(opdOf x).map (.len 1)
   |some (.map _ _)=>(opdOf x).map (.len 2)
   |_=>none
  | .cap,[x],[t]=>match P.underlying t with
   |some (.slice _)=>(opdOf x).map .cap
   |_=>none
  | .clear,[x],[t]=>match elemOf' P t with
   |some (e,R)=>do
    let z ←zeroOf P e
    if z.cells.length=shN R then return .copy R (←opdOf x) (.c (.ag z.cells)) else none
   |none=>none
  | .min,[x,y],_=>do return .Ep false (←opdOf x) (←opdOf y)
  | .max,[x,y],_=>do return .Ep true (←opdOf x) (←opdOf y)
  | .recover,[],_=>some .recover
  | .panic,[x],_=>(opdOf x).map .panic
  |_,_,_=>none
 | .call c=>do return .call (←calleeOf c.callee) (←vN c.args.toList)
 | .defer {callee:=.builtin _,..}=>none
 | .defer c=>do return .kh (←calleeOf c.callee) (←vN c.args.toList)
 | .panic x=>(opdOf x).map .panic
 |_=>none
def copB(I:Oper):AOp:=match cop P I with|some x=>x|none=>.bad
def guardOf(ops:Array Oper)(I:Oper):Option (Option (Nat×Bool)):=
 match I.guard with
 |none=>some none
 |some (j,w)=>match(ops[j]?).bind (·.dst) with
  |some d=>some (some (d,w))
  |none=>none
def coper(ops:Array Oper)(I:Oper):Option aQ:=
 match guardOf ops I with
 |some g=>some {dst:=I.dst,op:=copB P I,guard:=g,iL:=[]}
 |none=>none
def pP(I:Oper):List Nat:=(I.after.toList.filter (Region.binds .any)).map (·.on)
def AX:Nat→List (Nat×Bool×List Nat)→Nat→List Nat
 |0,_,_=>[]
 |fuel+1,rem,mask=>
  match(match rem.find? (fun x=>!x.2.1&&x.2.2.all (fun d=>mask.testBit d)) with|some x=>some x|none=>rem.find? (fun x=>x.2.2.all (fun d=>mask.testBit d))) with
  |some x=>x.1::AX fuel (rem.filter fun y=>!Nat.beq y.1 x.1) (mask ||| 1 <<< x.1)
  |none=>[]
def xS(A:List Nat)(es:List Nat):Nat:=es.foldr (fun d acc=>(1 <<< d ||| A.getD d 0) ||| acc) 0
def Eu{α:Type}(f:α→α→Bool):List α→Bool
 |[]=>true
 |x::xs=>xs.all (f x)&&Eu f xs
def indep(x y:aQ):Bool:=(match x.dst with|some d=>!y.reads.contains d|none=>true)&&(match y.dst with|some d=>!x.reads.contains d|none=>true)
def JS:AOp→Bool
 | .store _ _ _=>true
 |_=>false
def TC(x:aQ):Bool:=!x.op.ft&&(!x.op.kA&& !x.op.looks)
def TD(A:List Nat)(pl:List aQ)(x y:aQ×Nat):Bool:=
 Nat.beq (x.2+1) y.2&&(Nat.beq (y.2+1) pl.length&&(JS x.1.op&&(JS y.1.op&&(x.1.dst.isNone&&(y.1.dst.isNone&&(x.1.guard.isNone&&(y.1.guard.isNone&&(!y.1.iL.isEmpty&&
  pl.zipIdx.all fun r=>!Nat.blt r.2 x.2||((A.getD y.2 0).testBit r.2||TC r.1)))))))))
def pairOk(A:List Nat)(pl:List aQ)(x y:aQ×Nat):Bool:=
 let tC:=(A.getD y.2 0).testBit x.2
 (match x.1.dst,y.1.dst with|some d,some e=>!Nat.beq d e|_,_=>true)&&(tC||(indep x.1 y.1&&(!x.1.op.ft||TD A pl x y)))
def Ev(x:aQ):Bool:=x.op.ft||x.op.kA
def TE(A:List Nat)(es:List Nat)(cs:List Nat)(n:Nat)(x:aQ×Nat):Bool:=
 !x.1.op.looks||(n::es).all fun q=>!Nat.blt x.2 q||(x.1.iL.contains q||(es.any (fun e=>Nat.blt x.2 e&&(Nat.blt e q&&(A.getD e 0).testBit x.2))||cs.all fun c=>!(Nat.blt x.2 c&&Nat.blt c q)))
def b8m(A:List Nat)(es:List Nat)(cs:List Nat)(n:Nat)(x:aQ×Nat):List Nat:=
 if JS x.1.op&&(Nat.beq (x.2+1) n&&(Nat.blt 0 x.2&&(es.contains (x.2-1)&& !(A.getD x.2 0).testBit (x.2-1)))) then[x.2-1]
 else if x.1.op.looks then(es++[n]).filter fun q=>Nat.blt x.2 q&&(!es.any (fun e=>Nat.blt x.2 e&&(Nat.blt e q&&(A.getD e 0).testBit x.2))&& !cs.all fun c=>!(Nat.blt x.2 c&&Nat.blt c q)) else[]
def posOf(p:aQ→Bool)(pl:List aQ):List Nat:=(pl.zipIdx.filter fun x=>p x.1).map (·.2)
def TF(n:Nat)(a7 cD:List Nat):Bool:=
 Nat.beq a7.length n&&(Nat.beq cD.length n&&(a7.zipIdx.all (fun x=>Nat.blt x.1 n&&Nat.beq (cD.getD x.1 0) x.2)&&cD.zipIdx.all (fun x=>Nat.blt x.1 n&&Nat.beq (a7.getD x.1 0) x.2)))
def xT(ds:List (List Nat))(cD:List Nat)(i:Nat):List Nat:=(ds.getD i []).map fun j=>cD.getD j 0
def TG(ds:List (List Nat))(a7 cD A:List Nat):Bool:=
 a7.zipIdx.all fun x=>(xT ds cD x.1).all (fun d=>Nat.blt d x.2)&&Nat.beq (A.getD x.2 0) (xS A (xT ds cD x.1))
def TH(n:Nat)(ds:List (List Nat))(pl:List aQ)(a7 cD A:List Nat):Bool:=
 TF n a7 cD&&(ds.all (fun l=>l.all fun d=>Nat.blt d n)&&(TG ds a7 cD A&&(Eu (pairOk A pl) pl.zipIdx&&pl.zipIdx.all (TE A (posOf (·.op.ft) pl) (posOf Ev pl) n))))
def TI(l:List aQ)(a7:List Nat):Option (List aQ):=mapOL (fun i=>l[i]?) a7
def AY(A:List Nat)(n:Nat)(pl:List aQ):List aQ:=
 let es:=posOf (·.op.ft) pl
 let cs:=posOf Ev pl
 pl.zipIdx.map fun x=>{x.1 with iL:=b8m A es cs n x}
def cdraw(ops:Array Oper):Option (List aQ):=
 match mapOL (coper P ops) ops.toList with
 |none=>none
 |some l=>
  let n:=ops.size
  let ds:=ops.toList.map pP
  let a7:=AX n ((l.zip ds).zipIdx.map fun x=>(x.2,x.1.1.op.ft,x.1.2)) 0
  let cD:=(List.range n).map fun i=>a7.findIdx (Nat.beq i)
  let A:=a7.foldl (fun acc i=>acc++[xS acc (xT ds cD i)]) []
  match TI l a7 with
  |none=>none
  |some pl=>if TH n ds (AY A n pl) a7 cD A then some (AY A n pl) else none
def ccode:Code→Option bc
 | .skip=>some .skip
 | .region _ ops true=>match cdraw P ops with|some l=>some (.draw l)|none=>some .bad
 | .region _ ops false=>match mapOL (coper P ops) ops.toList with|some l=>some (.region l)|none=>some .bad
 | .seq a b=>match ccode a,ccode b with|some a,some b=>some (.seq a b)|_,_=>none
 | .cond c a b=>match opdOf c,ccode a,ccode b with|some c,some a,some b=>some (.cond c a b)|_,_,_=>none
 | .block id a=>match ccode a with|some a=>some (.block id a)|none=>none
 | .loop a=>match ccode a with|some a=>some (.loop a)|none=>none
 | .scope a=>match ccode a with|some a=>some (.scope a)|none=>none
 | .rangeFunc f ps a b=>match opdOf f,ccode a,ccode b with|some f,some a,some b=>some (.rangeFunc f ps.toList a b)|_,_,_=>none
 | .exit id=>some (.exit id)
 | .ret=>some .ret
 | .label _=>some .skip
 | .goto _=>some .bad
 | .refuse _=>some .bad
def resOf:ResultVar→Option (Nat×Option (Option Nat))
 | .tmp t=>some (t,none)
 | .cell a t=>match shapeOf P t with|some R=>some (a,some R)|none=>none
def cfunc(f:Func):Option bV:=
 match mapOL (resOf P) f.results.toList with
 |some rs=>match f.body with
  |none=>none
  |some c=>match ccode P c with
   |some c=>some {kz:=f.params.size+f.nfree,ntmps:=f.ntmps,results:=rs,body:=some c}
   |none=>none
 |none=>none
end
section
def strOf(l:List Nat):ByteArray:=⟨(l.map Nat.toUInt8).toArray⟩
def bsz(w:World)(b:Nat):Option Nat:=
 match w.heap[b]? with
 |some (.cells c _ _)=>some c.size
 |_=>none
class Tok where
 Ew:Nat→AV
 sj:Bool→Nat→AV
variable [Tok]
inductive AZ:AV→Value→Prop
 |i (k:IntKind) (n:Int):AZ (.i k n) (.int k n)
 |s (l:List Nat) (h:∀c∈l,c<256):AZ (.s l) (.string (strOf l))
theorem AZ.alt{a:AV}{u:Value}(h:AZ a u):(∃k n,u= .int k n)∨∃s,u= .string s:=by
 cases h with
 |i k n=>exact .inl ⟨_,_,rfl⟩
 |s l h=>exact .inr ⟨_,rfl⟩
inductive aq(w:World):(Nat→Option Nat)→(Nat→Prop)→Nat→AV→Value→Prop
 |b {m:Nat→Option Nat} {O:Nat→Prop} {B:Nat} (x:Bool):aq w m O B (.b x) (.bool x)
 |i {m:Nat→Option Nat} {O:Nat→Prop} {B:Nat} (k:IntKind) (n:Int):aq w m O B (.i k n) (.int k n)
 |s {m:Nat→Option Nat} {O:Nat→Prop} {B:Nat} (l:List Nat) (h:∀c∈l,c<256):aq w m O B (.s l) (.string (strOf l))
 |oN {m:Nat→Option Nat} {O:Nat→Prop} {B:Nat}:aq w m O B (.p none) (.pointer none)
 |p {m:Nat→Option Nat} {O:Nat→Prop} {B:Nat} {id ar off:Nat} (h:m id=some ar):aq w m O B (.p (some (id,off))) (.pointer (some ⟨ar,off,none⟩))
 |cG {m:Nat→Option Nat} {O:Nat→Prop} {B:Nat} {old:Bool} {v:AV} {ar off:Nat} (aZ:Nat→Value) (cY:¬O ar) (hb:ar<w.heap.size) (fc:old=false→B≤ar)
   (ab:∀j,j<v.cells.length→w.cell? ⟨ar,off+j,none⟩=some (aZ j)) (af:∀j (h:j<v.cells.length),aq w (fun _=>none) O B (v.cells[j]) (aZ j)) (hf:∀x∈v.cells,conf none x=true):
   aq w m O B (.cG old v) (.pointer (some ⟨ar,off,none⟩))
 |J {m:Nat→Option Nat} {O:Nat→Prop} {B:Nat}:aq w m O B .J (.slice none 0 0)
 |al {m:Nat→Option Nat} {O:Nat→Prop} {B:Nat} {id off len ar n dR:Nat} {R cap:Option Nat} (h:m id=some ar) (au:len≤dR) (ab:∀c,cap=some c→dR=c) (hn:bsz w ar=some n) (h6:off+dR*shN R≤n) (eF:cap=none→off+dR*shN R=n):
   aq w m O B (.al id off len R cap) (.slice (some ⟨ar,off,none⟩) len dR)
 |kR {m:Nat→Option Nat} {O:Nat→Prop} {B:Nat} {old:Bool} {R:Option Nat}:aq w m O B (.aD old R []) (.slice none 0 0)
 |aD {m:Nat→Option Nat} {O:Nat→Prop} {B:Nat} {old:Bool} {R:Option Nat} {xs:List AV} {ar off dR:Nat} {sp:Option Nat} (aZ:Nat→Nat→Value) (cY:xs≠[]→¬O ar∧ar<w.heap.size∧(old=false→B≤ar))
   (hs:∀i (h:i<xs.length),conf R (xs[i])=true)
   (ab:∀i (h:i<xs.length),∀j,j<(xs[i]).cells.length→w.cell? ⟨ar,off+i*shN R+j,none⟩=some (aZ i j))
   (af:∀i (h:i<xs.length),∀j (aB:j<(xs[i]).cells.length),aq w (fun _=>none) O B ((xs[i]).cells[j]) (aZ i j)) (au:xs.length≤dR) (hf:∀v∈xs,∀x∈v.cells,conf none x=true) (dS:xs≠[]→sp=none):
   aq w m O B (.aD old R xs) (.slice (some ⟨ar,off,sp⟩) xs.length dR)
 |pQ {m:Nat→Option Nat} {O:Nat→Prop} {B:Nat}:aq w m O B (.m none) (.map none)
 |mp {m:Nat→Option Nat} {O:Nat→Prop} {B:Nat} {id ar:Nat} (h:m id=some ar):aq w m O B (.m (some id)) (.map (some ar))
 |ni {m:Nat→Option Nat} {O:Nat→Prop} {B:Nat} {g:Nat} {fs cs:List AV} {gq e6:Array Value} (hf:gq.size=fs.length) (bl:∀i (h:i<fs.length) (h':i<gq.size),aq w m O B (fs[i]) (gq[i]))
   (ab:e6.size=cs.length) (q8:∀i (h:i<cs.length) (h':i<e6.size),aq w m O B (cs[i]) (e6[i])):aq w m O B (.f (.func g) fs cs) (.func (.func g) gq e6)
 |sk {m:Nat→Option Nat} {O:Nat→Prop} {B:Nat} {l ar:Nat} (h:m l=some ar):aq w m O B (.f (.yield l) [] []) (.func (.yield ar) #[] #[])
 |iK {m:Nat→Option Nat} {O:Nat→Prop} {B:Nat}:aq w m O B .iK .nilFunc
 |it {m:Nat→Option Nat} {O:Nat→Prop} {B:Nat} {t:TypeId} {v:AV} {u:Value} (h:aq w m O B v u):aq w m O B (.it t v) (.iface t u)
 |fb {m:Nat→Option Nat} {O:Nat→Prop} {B:Nat}:aq w m O B .fb .nilIface
 |ag {m:Nat→Option Nat} {O:Nat→Prop} {B:Nat} {l:List AV} {aX:Array Value} (hs:aX.size=l.length) (af:∀i (h:i<l.length) (h':i<aX.size),aq w m O B (l[i]) (aX[i])) (hf:∀x∈l,conf none x=true):aq w m O B (.ag l) (.agg aX)
 |aK {m:Nat→Option Nat} {O:Nat→Prop} {B:Nat} {l:List AV} {aX:Array Value} (hs:aX.size=l.length) (af:∀i (h:i<l.length) (h':i<aX.size),aq w m O B (l[i]) (aX[i])):aq w m O B (.aK l) (.tuple aX)
 |hq {m:Nat→Option Nat} {O:Nat→Prop} {B:Nat} {k:IntKind} {d j n:Nat} (h:n%d=j) (hn:n<256):aq w m O B (.hq k d j) (.int k (Int.ofNat n))
 |fY {m:Nat→Option Nat} {O:Nat→Prop} {B:Nat} {ex:List (List Nat)} {s:ByteArray} (h:∀e∈ex,s≠strOf e):aq w m O B (.fY ex) (.string s)
 |iu {m:Nat→Option Nat} {O:Nat→Prop} {B:Nat} {hi:Bool} (n:Int) (h:hi=decide (40<n)):aq w m O B (.iu hi) (.int .i64 n)
 |y {m:Nat→Option Nat} {O:Nat→Prop} {B i:Nat} {u:Value} (h:AZ (Tok.Ew i) u):aq w m O B (.y i) u
 |eN {m:Nat→Option Nat} {O:Nat→Prop} {B i:Nat} {old:Bool} {u:Value} {a:Option Addr} {l c:Nat} (hu:u= .slice a l c) (h:aq w (fun _=>none) O B (Tok.sj old i) u):aq w m O B (.eN old i) u
 |gH {m:Nat→Option Nat} {O:Nat→Prop} {B n:Nat} (k:Nat) (h:n≤k):aq w m O B (.gH n) (.int .i64 (Int.ofNat k))
 |iv {m:Nat→Option Nat} {O:Nat→Prop} {B bs hi:Nat} (k:Nat) (h:bs≤k) (h':k≤hi):aq w m O B (.iv bs hi) (.int .i64 (Int.ofNat k))
 |jl {m:Nat→Option Nat} {O:Nat→Prop} {B:Nat} {old:Bool} {R:Option Nat} {xs:List AV} {a:Addr} {n:Nat} (hn:n=xs.length) (bS:xs≠[]) (h:aq w m O B (.aD old R xs) (.slice (some a) n n)):aq w m O B (.jl old R xs) (.slice (some a) n n)
class TokOk:Prop where
 snap:∀ {w:World} {O:Nat→Prop} {B dp i:Nat} {old:Bool} {u:Value},aq w (fun _=>none) O B (Tok.sj old i) u→aq w (fun _=>none) (fun _=>False) dp (Tok.sj true i) u
 fresh:∀ {w:World} {O:Nat→Prop} {B i:Nat} {u:Value},aq w (fun _=>none) O B (Tok.sj false i) u→aq w (fun _=>none) (fun b=>b<B) B (Tok.sj false i) u
def bm(w:World)(m:Nat→Option Nat)(O:Nat→Prop)(B:Nat)(l:List AV)(aX:List Value):Prop:=
 aX.length=l.length∧∀i (h:i<l.length) (h':i<aX.length),aq w m O B (l[i]) (aX[i])
def iw(w:World)(m:Nat→Option Nat)(O:Nat→Prop)(B:Nat)(al:aP AV)(aX:List Value):Prop:=
 (∀i v,al.get i=some v→∃u,aX[i]? =some u∧aq w m O B v u)∧∀i,al.get i=none→aX[i]? =none
theorem TJ{w ao:World}{a:Addr}(h:ao.heap[a.block]? =w.heap[a.block]?):ao.cell? a=w.cell? a:=by
 unfold World.cell?;rw[h]
theorem aq.mono{w ao:World}{m aG:Nat→Option Nat}{O gr:Nat→Prop}{B:Nat}(hm:∀id ar,m id=some ar→aG id=some ar)(bZ:w.heap.size≤ao.heap.size)
  (fU:∀b n,bsz w b=some n→bsz ao b=some n) (ax:∀ar,ar<w.heap.size→¬O ar→ao.heap[ar]? =w.heap[ar]? ∧¬gr ar) {v:AV} {u:Value} (h:aq w m O B v u):aq ao aG gr B v u:=by
 induction h generalizing aG with
 |b x=>exact .b x
 |i k n=>exact .i k n
 |s l h=>exact .s l h
 |oN=>exact .oN
 |p h=>exact .p (hm _ _ h)
 |cG aZ cY hb fc ab af hf ay=>exact .cG aZ (ax _ hb cY).2 (by omega) fc (fun j aB=>by rw[TJ (w:=w) (ax _ hb cY).1];exact ab j aB) (fun j aB=>ay j aB (aG:=fun _=>none) (fun _ _ h=>by cases h) ax) hf
 |J=>exact .J
 |al h au ab hn h6 eF=>exact .al (hm _ _ h) au ab (fU _ _ hn) h6 eF
 |kR=>exact .kR
 | @aD _ _ _ old R xs ar off dR sp aZ cY hs ab af au hf dS ay=>
  by_cases hx:xs=[]
  ·subst hx;exact .aD aZ (fun h=>absurd rfl h) hs (fun i h=>by simp at h) (fun i h=>by simp at h) au hf dS
  ·obtain⟨h1,h2,h3⟩:=cY hx;exact .aD aZ (fun _=>⟨(ax _ h2 h1).2,by omega,h3⟩) hs (fun i h j aB=>by rw[TJ (w:=w) (ax _ h2 h1).1];exact ab i h j aB) (fun i h j aB=>ay i h j aB (aG:=fun _=>none) (fun _ _ h=>by cases h) ax) au hf dS
 |pQ=>exact .pQ
 |mp h=>exact .mp (hm _ _ h)
 |ni hf bl ab q8 JT JU=>exact .ni hf (fun i h h'=>JT i h h' hm ax) ab (fun i h h'=>JU i h h' hm ax)
 |sk h=>exact .sk (hm _ _ h)
 |iK=>exact .iK
 |it _ ay=>exact .it (ay hm ax)
 |fb=>exact .fb
 |ag hs _ hf ay=>exact .ag hs (fun i h h'=>ay i h h' hm ax) hf
 |aK hs _ ay=>exact .aK hs (fun i h h'=>ay i h h' hm ax)
 |hq h hn=>exact .hq h hn
 |fY h=>exact .fY h
 |iu n h=>exact .iu n h
 |y h=>exact .y h
 |eN hu _ ay=>exact .eN hu (ay (fun _ _ h=>by cases h) ax)
 |gH k h=>exact .gH k h
 |iv k h h'=>exact .iv k h h'
 |jl hn bS _ ay=>exact .jl hn bS (ay hm ax)
theorem aq.up{w:World}{m:Nat→Option Nat}{O:Nat→Prop}{B:Nat}{v:AV}{u:Value}(h:aq w (fun _=>none) O B v u):aq w m O B v u:=
 h.mono (fun _ _ h=>by cases h) (bK _) (fun _ _ h=>h) (fun _ _ h=>⟨rfl,h⟩)
def AO.isDead:AO→Bool
 | .dead=>true
 |_=>false
def live(o:ad)(id:Nat):Prop:=∃I,o.get id=some I∧I.isDead=false
def a_(o:ad)(m:Nat→Option Nat)(ar:Nat):Prop:=∃id,m id=some ar∧live o id
def vO(f:Nat)(o:ad)(m:Nat→Option Nat)(ar:Nat):Prop:=∃id,f≤id∧m id=some ar∧live o id
def Ex(P:Program):Option bc→Option Code→Prop
 |none,none=>True
 |some c,some d=>ccode P d=some c∧(c= .ret∨∃id,c= .exit id)
 |_,_=>False
inductive kS(P:Program)(w:World)(m:Nat→Option Nat)(O:Nat→Prop)(B:Nat):AO→Obj→Prop
 |cells {c:List AV} {arr:Array Value} {el:TypeId} {aT:Nat×Nat} (au:c.length≤arr.size) (af:∀i (h:i<c.length) (h':i<arr.size),aq w m O B (c[i]) (arr[i]))
   (bw:∀i,i<arr.size→(decide (aT.1≤i)&&decide (i<aT.2))=false) (hf:∀x∈c,conf none x=true):kS P w m O B (.cells c) (.cells arr el aT)
 |map {es:List (AV×AV×Nat)} {db:Array MapEntry} {clock:Nat} (au:db.size=es.length)
   (af:∀i (h:i<es.length) (h':i<db.size),aq w m O B (es[i]).1 (db[i]).key∧aq w m O B (es[i]).2.1 (db[i]).val∧(db[i]).born=(es[i]).2.2):kS P w m O B (.map es clock) (.map db clock)
 |mapIter {id:Option Nat} {b:Option Nat} {since gB:Nat} {seen:List Nat} (hb:match id,b with|none,none=>True|some i,some j=>m i=some j|_,_=>False):
   kS P w m O B (.mapIter id since seen gB) (.mapIter b since seen.toArray gB)
 |loop {st:LoopState} {h5:Option bc} {mI:Option Code} {aW:aP AV} {tmps:Array Value} {ps:List Nat} {bP b:bc} {fT b':Code} {d D:Nat} {fn:FuncId}
   (kT:Ex P h5 mI) (hs:iw w m O B aW tmps.toList) (ha:ccode P fT=some bP) (hb:ccode P b'=some b) (an:m d=some D):
   kS P w m O B (.loop st h5 aW ps bP b d) (.loop {state:=st,pending:=mI,fn,tmps,params:=ps.toArray,assign:=fT,body:=b',defers:=D})
 |cT:kS P w m O B .cT (.deferred (some []))
 |gI {c:List AV} {r:Nat} {arr:Array Value} {el:TypeId} {aT:Nat×Nat} (au:c.length+r≤arr.size) (af:∀i (h:i<c.length) (h':i<arr.size),aq w m O B (c[i]) (arr[i]))
   (bw:∀i,i<arr.size→(decide (aT.1≤i)&&decide (i<aT.2))=false) (hf:∀x∈c,conf none x=true):kS P w m O B (.gI c r) (.cells arr el aT)
theorem bm.mono{w ao:World}{m aG:Nat→Option Nat}{O gr:Nat→Prop}{B:Nat}(hm:∀id ar,m id=some ar→aG id=some ar)(bZ:w.heap.size≤ao.heap.size)
  (fU:∀b n,bsz w b=some n→bsz ao b=some n) (ax:∀ar,ar<w.heap.size→¬O ar→ao.heap[ar]? =w.heap[ar]? ∧¬gr ar) {l:List AV} {aX:List Value} (h:bm w m O B l aX):bm ao aG gr B l aX:=
 ⟨h.1,fun i hi dc=>(h.2 i hi dc).mono hm bZ fU ax⟩
theorem iw.mono{w ao:World}{m aG:Nat→Option Nat}{O gr:Nat→Prop}{B:Nat}(hm:∀id ar,m id=some ar→aG id=some ar)(bZ:w.heap.size≤ao.heap.size)
  (fU:∀b n,bsz w b=some n→bsz ao b=some n) (ax:∀ar,ar<w.heap.size→¬O ar→ao.heap[ar]? =w.heap[ar]? ∧¬gr ar) {l:aP AV} {aX:List Value} (h:iw w m O B l aX):iw ao aG gr B l aX:=
 ⟨fun i v hi=>let⟨u,h1,h2⟩:=h.1 i v hi;⟨u,h1,h2.mono hm bZ fU ax⟩,h.2⟩
theorem kS.mono{P:Program}{w ao:World}{m aG:Nat→Option Nat}{O gr:Nat→Prop}{B:Nat}(hm:∀id ar,m id=some ar→aG id=some ar)(bZ:w.heap.size≤ao.heap.size)
  (fU:∀b n,bsz w b=some n→bsz ao b=some n) (ax:∀ar,ar<w.heap.size→¬O ar→ao.heap[ar]? =w.heap[ar]? ∧¬gr ar) {I:AO} {bE:Obj} (h:kS P w m O B I bE):kS P ao aG gr B I bE:=by
 cases h with
 |cells au af bw hf=>exact .cells au (fun i h h'=>(af i h h').mono hm bZ fU ax) bw hf
 |map au af=>exact .map au (fun i h h'=>⟨(af i h h').1.mono hm bZ fU ax,(af i h h').2.1.mono hm bZ fU ax,(af i h h').2.2⟩)
 | @mapIter id b _ _ _ hb=>exact .mapIter (by cases id<;>cases b<;>first|exact hb|exact hm _ _ hb)
 |loop kT hs ha hb an=>exact .loop kT (hs.mono hm bZ fU ax) ha hb (hm _ _ an)
 |cT=>exact .cT
 |gI au af bw hf=>exact .gI au (fun i h h'=>(af i h h').mono hm bZ fU ax) bw hf
structure Rel(P:Program)(o:ad)(w:World)(m:Nat→Option Nat)(B:Nat):Prop where
 len:True
 eP:∀id ar,m id=some ar→ar<w.heap.size∧id<o.next
 obj:∀id ar I,m id=some ar→o.get id=some I→I.isDead=false→∃bE,w.heap[ar]? =some bE∧kS P w m (a_ o m) B I bE
 inj:∀id eR ar,m id=some ar→m eR=some ar→live o id→live o eR→id=eR
 base:∀id ar,m id=some ar→B≤ar
 fy:B≤w.heap.size
structure Ext(f:Nat)(o:ad)(w:World)(m:Nat→Option Nat)(ah:ad)(ao:World)(aG:Nat→Option Nat):Prop where
 mono:∀id ar,m id=some ar→aG id=some ar
 new:∀id ar,aG id=some ar→m id=some ar∨(o.next≤id∧(w.heap.size≤ar∨vO f o m ar))
 next:o.next≤ah.next
 size:w.heap.size≤ao.heap.size
 h7:∀b n,bsz w b=some n→bsz ao b=some n
 ee:∀ar,ar<w.heap.size→¬vO f o m ar→ao.heap[ar]? =w.heap[ar]?
 low:∀id,id<f→id<o.next→ah.get id=o.get id
 dead:∀id,id<o.next→live ah id→live o id
 os:ao.os=w.os
 tape:ao.tape=w.tape
 out:ao.output=w.output
 un:∀id,id<o.next→m id=none→ah.get id=o.get id
theorem vO.own{f:Nat}{o:ad}{m:Nat→Option Nat}{ar:Nat}(h:vO f o m ar):a_ o m ar:=let⟨id,_,h1,h2⟩:=h;⟨id,h1,h2⟩
theorem Ext.refl(f:Nat)(o:ad)(w:World)(m:Nat→Option Nat):Ext f o w m o w m:=
 ⟨fun _ _ h=>h,fun _ _ h=>.inl h,bK _,bK _,fun _ _ h=>h,fun _ _ _=>rfl,fun _ _ _=>rfl,fun _ _ h=>h,rfl,rfl,rfl,fun _ _ _=>rfl⟩
theorem Ext.pR{P:Program}{f:Nat}{o ah:ad}{w ao:World}{m aG:Nat→Option Nat}{B:Nat}(h:Ext f o w m ah ao aG)(af:Rel P o w m B)(ar:Nat)(hb:ar<w.heap.size)(cY:¬a_ o m ar):
  ao.heap[ar]? =w.heap[ar]? ∧¬a_ ah aG ar:=by
 refine⟨h.ee ar hb (fun aj=>cY aj.own),?_⟩;rintro⟨id,h1,h2⟩;rcases h.new id ar h1 with h3|⟨_,h3|h3⟩
 ·exact cY ⟨id,h3,h.dead id (af.eP _ _ h3).2 h2⟩
 ·omega
 ·exact cY h3.own
theorem aq.ext{P:Program}{f:Nat}{o ah:ad}{w ao:World}{m aG:Nat→Option Nat}{B:Nat}(h:Ext f o w m ah ao aG)(af:Rel P o w m B){v:AV}{u:Value}(av:aq w m (a_ o m) B v u):aq ao aG (a_ ah aG) B v u:=
 av.mono h.mono h.size h.h7 (h.pR af)
theorem iw.ext{P:Program}{f:Nat}{o ah:ad}{w ao:World}{m aG:Nat→Option Nat}{B:Nat}(h:Ext f o w m ah ao aG)(af:Rel P o w m B){v:aP AV}{u:List Value}(av:iw w m (a_ o m) B v u):iw ao aG (a_ ah aG) B v u:=
 av.mono h.mono h.size h.h7 (h.pR af)
theorem bm.ext{P:Program}{f:Nat}{o ah:ad}{w ao:World}{m aG:Nat→Option Nat}{B:Nat}(h:Ext f o w m ah ao aG)(af:Rel P o w m B){v:List AV}{u:List Value}(av:bm w m (a_ o m) B v u):bm ao aG (a_ ah aG) B v u:=
 av.mono h.mono h.size h.h7 (h.pR af)
theorem Ext.trans{P:Program}{f:Nat}{o ah TK:ad}{w ao xU:World}{m aG TL:Nat→Option Nat}{B:Nat}(h:Ext f o w m ah ao aG)(af:Rel P o w m B)(h':Ext f ah ao aG TK xU TL):Ext f o w m TK xU TL where
 mono id ar hb:=h'.mono _ _ (h.mono _ _ hb)
 new id ar hb:=by
  have key:∀b,vO f ah aG b→w.heap.size≤b∨vO f o m b:=by
   rintro b ⟨i,hf,h1,h2⟩;rcases h.new i b h1 with h3|⟨_,h3⟩
   ·exact .inr ⟨i,hf,h3,h.dead i (af.eP _ _ h3).2 h2⟩
   ·exact h3
  rcases h'.new id ar hb with h1|⟨h1,h2⟩
  ·rcases h.new id ar h1 with h3|⟨h3,aN⟩
   ·exact .inl h3
   ·exact .inr ⟨h3,aN⟩
  ·refine .inr ⟨by have:=h.next;omega,?_⟩;rcases h2 with h2|h2
   ·exact .inl (by have:=h.size;omega)
   ·exact key _ h2
 next:=jk h.next h'.next
 size:=jk h.size h'.size
 h7 b n hb:=h'.h7 _ _ (h.h7 _ _ hb)
 ee ar hb cY:=by
  have hs:=h.size;rw[h'.ee ar (by omega) ?_,h.ee ar hb cY];rintro⟨i,hf,h1,h2⟩;rcases h.new i ar h1 with h3|⟨_,h3|h3⟩
  ·exact cY ⟨i,hf,h3,h.dead i (af.eP _ _ h3).2 h2⟩
  ·omega
  ·exact cY h3
 low id hf hn:=by rw[h'.low id hf (by have:=h.next;omega),h.low id hf hn]
 dead id hn au:=h.dead id hn (h'.dead id (by have:=h.next;omega) au)
 os:=h'.os.trans h.os
 tape:=h'.tape.trans h.tape
 out:=h'.out.trans h.out
 un id hn hm:=by
  have q9:aG id=none:=by
   cases e:aG id with
   |none=>rfl
   |some b=>
    rcases h.new id b e with h3|⟨h3,_⟩
    ·rw[hm] at h3;cases h3
    ·omega
  rw[h'.un id (by have:=h.next;omega) q9,h.un id hn hm]
theorem Ey{α:Type}(l:List α):∀n,nth l n=l[n]? :=by
 induction l with
 |nil=>intro n;rfl
 |cons x xs ay=>
  intro n;cases n with
  |zero=>rfl
  |succ n=>exact(ay n).trans (by simp)
theorem TM{α β:Type}(f:α→Option β):mapO f []=some []:=rfl
theorem mapO_cons{α β:Type}(f:α→Option β)(x:α)(xs:List α):mapO f (x::xs)=match f x with|none=>none|some y=>match mapO f xs with|none=>none|some aZ=>some (y::aZ):=rfl
theorem nT{α β:Type}{f:α→Option β}:∀ {l:List α} {aZ:List β},mapO f l=some aZ→aZ.length=l.length∧∀i (h:i<l.length) (h':i<aZ.length),f (l[i])=some (aZ[i])
 |[],aZ,h=>by simp[TM] at h;subst h;simp
 |x::xs,aZ,h=>by
  rw[mapO_cons] at h;cases hx:f x with
  |none=>simp[hx] at h
  |some y=>
   simp only[hx] at h;cases dC:mapO f xs with
   |none=>simp[dC] at h
   |some jG=>
    simp only[dC,ca] at h;subst h;obtain⟨h1,h2⟩:=nT dC;refine⟨by simp[h1],fun i hi dc=>?_⟩;cases i with
    |zero=>simpa using hx
    |succ i=>simpa using h2 i (by simpa using hi) (by simpa using dc)
theorem nU{i:Nat}(h:i≠0):(Nat.beq (Nat.mod i 2) 1=true∧i=2*Nat.div (Nat.sub i 1) 2+1)∨(Nat.beq (Nat.mod i 2) 1=false∧i=2*Nat.div (Nat.sub i 1) 2+2):=by
 have aE:Nat.mod i 2=i%2:=rfl;have aY:Nat.div (Nat.sub i 1) 2=(i-1)/2:=rfl;rw[aE,aY];rcases Nat.mod_two_eq_zero_or_one i with h2|h2
 ·right;rw[h2];exact⟨rfl,by omega⟩
 ·left;rw[h2];exact⟨rfl,by omega⟩
section
variable {α:Type}
theorem aP.get_nil(i:Nat):(aP.nil:aP α).get i=none:=rfl
theorem pS{α:Type}(t:Bool)(a b:α):(Bool.rec (motive:=fun _=>α) b a t:α)=cond t a b:=by cases t<;>rfl
theorem aP.jX(v:Option α)(l r:aP α)(i:Nat):(aP.node v l r).get i=cond (Nat.beq i 0) v (cond (Nat.beq (Nat.mod i 2) 1) (l.get (Nat.div (Nat.sub i 1) 2)) (r.get (Nat.div (Nat.sub i 1) 2))):=(pS _ _ _).trans (congrArg (cond _ _) (pS _ _ _))
theorem aP.JV(v:Option α)(l r:aP α)(i:Nat)(x:α):(aP.node v l r).set i x=cond (Nat.beq i 0) (.node (match v with|some _=>some x|none=>none) l r)
  (cond (Nat.beq (Nat.mod i 2) 1) (.node v (l.set (Nat.div (Nat.sub i 1) 2) x) r) (.node v l (r.set (Nat.div (Nat.sub i 1) 2) x))):=by cases v<;>exact(pS _ _ _).trans (congrArg (cond _ _) (pS _ _ _))
theorem aP.b8n(i:Nat)(x:α):(aP.nil:aP α).ins i x=aP.xL (i+1) i x:=rfl
theorem aP.b8o(v:Option α)(l r:aP α)(i:Nat)(x:α):(aP.node v l r).ins i x=cond (Nat.beq i 0) (.node (some x) l r)
  (cond (Nat.beq (Nat.mod i 2) 1) (.node v (l.ins (Nat.div (Nat.sub i 1) 2) x) r) (.node v l (r.ins (Nat.div (Nat.sub i 1) 2) x))):=(pS _ _ _).trans (congrArg (cond _ _) (pS _ _ _))
theorem aP.b8p(f i:Nat)(x:α):aP.xL (f+1) i x=cond (Nat.beq i 0) (.node (some x) .nil .nil) (cond (Nat.beq (Nat.mod i 2) 1) (.node none (aP.xL f (Nat.div (Nat.sub i 1) 2) x) .nil) (.node none .nil (aP.xL f (Nat.div (Nat.sub i 1) 2) x))):=(pS _ _ _).trans (congrArg (cond _ _) (pS _ _ _))
theorem aP.TN(f n:Nat)(x:α):aP.full (f+1) x n=cond (Nat.beq n 0) .nil (.node (some x) (aP.full f x (Nat.div n 2)) (aP.full f x (Nat.div (Nat.sub n 1) 2))):=rfl
theorem jo{i:Nat}(h:i≠0):Nat.beq i 0=false:=by
 cases h1:Nat.beq i 0 with
 |false=>rfl
 |true=>exact absurd (eM h1) h
theorem aP.ix:∀(t:aP α) (d i:Nat) (x:α),(t.set d x).get i=if i=d then(t.get d).map (fun _=>x) else t.get i
 | .nil,d,i,x=>by
  show(aP.nil:aP α).get i=_;rw[aP.get_nil,aP.get_nil];simp
 | .node v l r,d,i,x=>by
  rw[aP.JV];by_cases an:d=0
  ·subst an;rw[fR,cond_true,aP.jX,aP.jX,aP.jX];by_cases hi:i=0
   ·subst hi;rw[fR,cond_true,cond_true,if_pos rfl];cases v<;>rfl
   ·rw[jo hi,cond_false,cond_false,if_neg hi]
  ·rw[jo an,cond_false];rcases nU an with⟨h1,h2⟩|⟨h1,h2⟩
   ·rw[h1,cond_true,aP.jX,aP.jX,aP.jX,jo an,cond_false,h1,cond_true];by_cases hi:i=0
    ·subst hi;rw[fR,cond_true,cond_true,if_neg (oG an)]
    ·rw[jo hi,cond_false,cond_false];rcases nU hi with⟨h3,aN⟩|⟨h3,aN⟩
     ·rw[h3,cond_true,cond_true,aP.ix l];by_cases he:i=d
      ·subst he;rw[if_pos rfl,if_pos rfl]
      ·rw[if_neg he,if_neg (by omega)]
     ·rw[h3,cond_false,cond_false,if_neg (by omega)]
   ·rw[h1,cond_false,aP.jX,aP.jX,aP.jX,jo an,cond_false,h1,cond_false];by_cases hi:i=0
    ·subst hi;rw[fR,cond_true,cond_true,if_neg (oG an)]
    ·rw[jo hi,cond_false,cond_false];rcases nU hi with⟨h3,aN⟩|⟨h3,aN⟩
     ·rw[h3,cond_true,cond_true,if_neg (by omega)]
     ·rw[h3,cond_false,cond_false,aP.ix r];by_cases he:i=d
      ·subst he;rw[if_pos rfl,if_pos rfl]
      ·rw[if_neg he,if_neg (by omega)]
theorem aP.JW:∀(f d i:Nat) (x:α),d<f→(aP.xL f d x).get i=if i=d then some x else none
 |0,d,i,x,h=>by omega
 |f+1,d,i,x,h=>by
  rw[aP.b8p];by_cases an:d=0
  ·subst an;rw[fR,cond_true,aP.jX];by_cases hi:i=0
   ·subst hi;rw[fR,cond_true,if_pos rfl]
   ·rw[jo hi,cond_false,if_neg hi,aP.get_nil];cases Nat.beq (Nat.mod i 2) 1<;>rfl
  ·rw[jo an,cond_false];rcases nU an with⟨h1,h2⟩|⟨h1,h2⟩
   ·rw[h1,cond_true,aP.jX];by_cases hi:i=0
    ·subst hi;rw[fR,cond_true,if_neg (oG an)]
    ·rw[jo hi,cond_false];rcases nU hi with⟨h3,aN⟩|⟨h3,aN⟩
     ·rw[h3,cond_true,aP.JW f _ _ x (by omega)];by_cases he:i=d
      ·subst he;rw[if_pos rfl,if_pos rfl]
      ·rw[if_neg he,if_neg (by omega)]
     ·rw[h3,cond_false,if_neg (by omega),aP.get_nil]
   ·rw[h1,cond_false,aP.jX];by_cases hi:i=0
    ·subst hi;rw[fR,cond_true,if_neg (oG an)]
    ·rw[jo hi,cond_false];rcases nU hi with⟨h3,aN⟩|⟨h3,aN⟩
     ·rw[h3,cond_true,if_neg (by omega),aP.get_nil]
     ·rw[h3,cond_false,aP.JW f _ _ x (by omega)];by_cases he:i=d
      ·subst he;rw[if_pos rfl,if_pos rfl]
      ·rw[if_neg he,if_neg (by omega)]
theorem aP.A0:∀(t:aP α) (d i:Nat) (x:α),(t.ins d x).get i=if i=d then some x else t.get i
 | .nil,d,i,x=>by rw[aP.b8n,aP.JW _ _ _ _ (nO d),aP.get_nil]
 | .node v l r,d,i,x=>by
  rw[aP.b8o];by_cases an:d=0
  ·subst an;rw[fR,cond_true,aP.jX,aP.jX];by_cases hi:i=0
   ·subst hi;rw[fR,cond_true,if_pos rfl]
   ·rw[jo hi,cond_false,cond_false,if_neg hi]
  ·rw[jo an,cond_false];rcases nU an with⟨h1,h2⟩|⟨h1,h2⟩
   ·rw[h1,cond_true,aP.jX,aP.jX];by_cases hi:i=0
    ·subst hi;rw[fR,cond_true,cond_true,if_neg (oG an)]
    ·rw[jo hi,cond_false,cond_false];rcases nU hi with⟨h3,aN⟩|⟨h3,aN⟩
     ·rw[h3,cond_true,cond_true,aP.A0 l];by_cases he:i=d
      ·subst he;rw[if_pos rfl,if_pos rfl]
      ·rw[if_neg he,if_neg (by omega)]
     ·rw[h3,cond_false,cond_false,if_neg (by omega)]
   ·rw[h1,cond_false,aP.jX,aP.jX];by_cases hi:i=0
    ·subst hi;rw[fR,cond_true,cond_true,if_neg (oG an)]
    ·rw[jo hi,cond_false,cond_false];rcases nU hi with⟨h3,aN⟩|⟨h3,aN⟩
     ·rw[h3,cond_true,cond_true,if_neg (by omega)]
     ·rw[h3,cond_false,cond_false,aP.A0 r];by_cases he:i=d
      ·subst he;rw[if_pos rfl,if_pos rfl]
      ·rw[if_neg he,if_neg (by omega)]
theorem aP.Ez:∀(f n i:Nat) (x:α),i<n→n≤f→(aP.full f x n).get i=some x
 |0,n,i,x,h,hf=>by omega
 |f+1,n,i,x,h,hf=>by
  rw[aP.TN];have hn:n≠0:=by omega
  rw[jo hn,cond_false,aP.jX];have aE:Nat.div n 2=n/2:=rfl;have aY:Nat.div (Nat.sub n 1) 2=(n-1)/2:=rfl;by_cases hi:i=0
  ·subst hi;rw[fR,cond_true]
  ·rw[jo hi,cond_false];rcases nU hi with⟨h3,aN⟩|⟨h3,aN⟩
   ·rw[h3,cond_true];exact aP.Ez f _ _ x (by rw[aE];omega) (by rw[aE];omega)
   ·rw[h3,cond_false];exact aP.Ez f _ _ x (by rw[aY];omega) (by rw[aY];omega)
theorem aP.EA:∀(f n i:Nat) (x y:α),(aP.full f x n).get i=some y→y=x∧i<n
 |0,n,i,x,y,h=>by
  have h:(aP.nil:aP α).get i=some y:=h;rw[aP.get_nil] at h;cases h
 |f+1,n,i,x,y,h=>by
  rw[aP.TN] at h;by_cases hn:n=0
  ·subst hn;rw[fR,cond_true,aP.get_nil] at h;cases h
  ·rw[jo hn,cond_false,aP.jX] at h;have aE:Nat.div n 2=n/2:=rfl;have aY:Nat.div (Nat.sub n 1) 2=(n-1)/2:=rfl;by_cases hi:i=0
   ·subst hi;rw[fR,cond_true] at h;cases h;exact⟨rfl,by omega⟩
   ·rw[jo hi,cond_false] at h;rcases nU hi with⟨h3,aN⟩|⟨h3,aN⟩
    ·rw[h3,cond_true] at h;have:=aP.EA f _ _ x y h;exact⟨this.1,by rw[aE] at this;omega⟩
    ·rw[h3,cond_false] at h;have:=aP.EA f _ _ x y h;exact⟨this.1,by rw[aY] at this;omega⟩
end
section
variable {α:Type}
theorem TO(f i:Nat):vH (f+1) i=cond (Nat.beq i 0) .h (cond (Nat.beq (Nat.mod i 2) 1) (.l (vH f (Nat.div (Nat.sub i 1) 2))) (.r (vH f (Nat.div (Nat.sub i 1) 2)))):=
 (pS _ _ _).trans (congrArg (cond _ _) (pS _ _ _))
theorem aP.EB:∀(f i:Nat) (t:aP α),i<f→aP.Er (vH f i) t=t.get i
 |0,i,t,h=>absurd h (Nat.not_lt_zero _)
 |f+1,i,t,h=>by
  rw[TO];by_cases hi:i=0
  ·subst hi;cases t<;>rfl
  ·rw[jo hi,cond_false];have bu:Nat.div (Nat.sub i 1) 2<f:=by show(i-1)/2<f;omega
   rcases nU hi with⟨h1,_⟩|⟨h1,_⟩
   ·rw[h1,cond_true];cases t with
    |nil=>rfl
    |node v l r=>rw[aP.jX,jo hi,cond_false,h1,cond_true];exact aP.EB f _ l bu
   ·rw[h1,cond_false];cases t with
    |nil=>rfl
    |node v l r=>rw[aP.jX,jo hi,cond_false,h1,cond_false];exact aP.EB f _ r bu
theorem aP.JX(x:α):∀(f i:Nat) (t:aP α),i<f→aP.Tw x (vH f i) t=t.set i x
 |0,i,t,h=>absurd h (Nat.not_lt_zero _)
 |f+1,i,t,h=>by
  rw[TO];by_cases hi:i=0
  ·subst hi;cases t<;>rfl
  ·rw[jo hi,cond_false];have bu:Nat.div (Nat.sub i 1) 2<f:=by show(i-1)/2<f;omega
   rcases nU hi with⟨h1,_⟩|⟨h1,_⟩
   ·rw[h1,cond_true];cases t with
    |nil=>rfl
    |node v l r=>rw[aP.JV,jo hi,cond_false,h1,cond_true];exact congrArg (fun l=>aP.node v l r) (aP.JX x f _ l bu)
   ·rw[h1,cond_false];cases t with
    |nil=>rfl
    |node v l r=>rw[aP.JV,jo hi,cond_false,h1,cond_false];exact congrArg (fun r=>aP.node v l r) (aP.JX x f _ r bu)
end
theorem JY:xM=evalA:=by
 funext env al x
 cases x with
 |t i=>exact aP.EB _ _ _ (nO i)
 |c v=>rfl
 |g g=>rfl
theorem TP:Fr.ng=Fr.put:=by
 funext ae d v
 cases d with
 |none=>rfl
 |some d=>exact congrArg (fun s=>Fr.mk s ae.defers ae.eZ) (aP.JX v _ _ _ (nO d))
theorem TQ:Et=wantedA:=by
 funext g al
 cases g with
 |none=>rfl
 |some p=>
  obtain⟨d,w⟩:=p;show(match aP.Er (vH (d+1) d) al with|some (.b x)=>x==w|_=>false)=_;rw[aP.EB _ _ _ (nO d)];rfl
theorem b8q(env:Env)(ay:iM):TA env ay=step env ay:=by
 funext floor aH c ae o
 cases c with
 |cond c a b=>
  show(match xM env ae.aW c with|some (.b t)=>ay floor aH (cond t a b) ae o|_=>none)=_;rw[JY];rfl
 |_=>rfl
theorem ad.get_eq(o:ad)(id:Nat):o.get id=if id<o.next then o.vI.get id else none:=by
 unfold ad.get;by_cases h:id<o.next
 ·have hb:Nat.blt id o.next=true:=by simpa [fX] using h
  rw[hb,cond_true,if_pos h]
 ·have hb:Nat.blt id o.next=false:=by
   cases hb:Nat.blt id o.next
   ·rfl
   ·exact absurd (by simpa [fX] using hb) h
  rw[hb,cond_false,if_neg h]
theorem ad.ei{o:ad}{id:Nat}{I:AO}(h:o.get id=some I):id<o.next:=by
 rw[ad.get_eq] at h;split at h
 ·assumption
 ·cases h
theorem ad.fZ{o:ad}(_hl:True)(I:AO){id:Nat}(h:id<o.next):(o.push I).get id=o.get id:=by
 rw[ad.get_eq,ad.get_eq,if_pos h,if_pos (show id<(o.push I).next from AI h)];show(o.vI.ins o.next I).get id=_;rw[aP.A0,if_neg (by omega)]
theorem ad.jH{o:ad}(I:AO):(o.push I).get o.next=some I:=by
 rw[ad.get_eq,if_pos (show o.next<(o.push I).next from nO _)];show(o.vI.ins o.next I).get o.next=_;rw[aP.A0,if_pos rfl]
theorem ad.JZ{o:ad}(au:True)(I:AO)(id:Nat):(o.push I).get id=if id=o.next then some I else o.get id:=by
 by_cases h:id=o.next
 ·subst h;simp[ad.jH]
 ·rw[if_neg h];by_cases h':id<o.next
  ·exact ad.fZ au I h'
  ·rw[ad.get_eq,ad.get_eq,if_neg (show ¬id<(o.push I).next from fun h2=>h (by have:id<o.next+1:=h2;omega)),if_neg h']
theorem ad.ix{o:ad}(_hl:True){id:Nat}(I:AO)(h:id<o.next)(eR:Nat):(o.set id I).get eR=if eR=id then some I else o.get eR:=by
 rw[ad.get_eq,ad.get_eq];show(if eR<o.next then(o.vI.ins id I).get eR else none)=_;by_cases h':eR<o.next
 ·rw[if_pos h',if_pos h',aP.A0]
 ·rw[if_neg h',if_neg h',if_neg (by omega)]
end
section
variable [Tok]
open Go.RowKit
def wr:Array Value→Nat→List Value→Array Value
 |arr,_,[]=>arr
 |arr,I,v::r=>wr (arr.setIfInBounds I v) (I+1) r
theorem q_:∀(aX:List Value) (arr:Array Value) (I:Nat),(wr arr I aX).size=arr.size
 |[],_,_=>rfl
 |v::r,arr,I=>by rw[wr,q_ r];simp
theorem xV:∀(aX:List Value) (arr:Array Value) (I i:Nat),I+aX.length≤arr.size→(wr arr I aX)[i]? =if I≤i∧i<I+aX.length then aX[i-I]? else arr[i]?
 |[],arr,I,i,_=>by rw[wr,if_neg (fun h=>by simp at h;omega)]
 |v::r,arr,I,i,h=>by
  have h':I+1+r.length≤(arr.setIfInBounds I v).size:=by simp at h ⊢;omega
  rw[wr,xV r _ (I+1) i h'];simp only[jD] at h ⊢;by_cases h1:I+1≤i∧i<I+1+r.length
  ·rw[if_pos h1,if_pos (by omega),show i-I=(i-(I+1))+1 by omega,AJ]
  ·rw[if_neg h1];by_cases h2:i=I
   ·subst h2;rw[if_pos (by omega)];simp[D9];omega
   ·rw[if_neg (by omega),Jx (fun e=>h2 e.symm)]
theorem heap_setCell_same{w:World}{b I:Nat}{v:Value}{arr:Array Value}{el:TypeId}{aT:Nat×Nat}(h:w.heap[b]? =some (.cells arr el aT)):
  (w.setCell ⟨b,I,none⟩ v).heap[b]? =some (.cells (arr.setIfInBounds I v) el aT):=by
 simp[World.setCell,Jy,h]
theorem EC:∀(aX:List Value) (w:World) (b I:Nat) (arr:Array Value) (el:TypeId) (aT:Nat×Nat),w.heap[b]? =some (.cells arr el aT)→
  (w.setCells b I aX).heap[b]? =some (.cells (wr arr I aX) el aT)
 |[],w,b,I,arr,el,aT,h=>h
 |v::r,w,b,I,arr,el,aT,h=>by
  rw[World.setCells,wr];exact EC r _ b (I+1) _ el aT (heap_setCell_same h)
theorem heap_setCells_other:∀(aX:List Value) (w:World) (b I k:Nat),k≠b→(w.setCells b I aX).heap[k]? =w.heap[k]?
 |[],w,b,I,k,h=>rfl
 |v::r,w,b,I,k,h=>by
  rw[World.setCells,heap_setCells_other r _ b (I+1) k h];exact Below.heap_setCell w ⟨b,I,none⟩ v k h
theorem ED:∀(aX:List Value) (w:World) (b I:Nat),(w.setCells b I aX).heap.size=w.heap.size∧(w.setCells b I aX).os=w.os∧(w.setCells b I aX).tape=w.tape∧(w.setCells b I aX).output=w.output
 |[],w,b,I=>⟨rfl,rfl,rfl,rfl⟩
 |v::r,w,b,I=>by
  rw[World.setCells];obtain⟨h1,h2,h3,aN⟩:=ED r (w.setCell ⟨b,I,none⟩ v) b (I+1);exact⟨by rw[h1];simp,by rw[h2];rfl,by rw[h3];rfl,by rw[aN];rfl⟩
theorem vP{w:World}{b:Nat}{I:Obj}(h:w.heap[b]? =some I):b<w.heap.size:=(vz.1 h).1
def bindM(m:Nat→Option Nat)(i b:Nat):Nat→Option Nat:=fun id=>if id=i then some b else m id
theorem gK(m:Nat→Option Nat)(i b:Nat):bindM m i b i=some b:=by simp[bindM]
theorem iy(m:Nat→Option Nat)(i b:Nat){id:Nat}(h:id≠i):bindM m i b id=m id:=by simp[bindM,h]
section
variable {P:Program}{o:ad}{w:World}{m:Nat→Option Nat}{B:Nat}
theorem Rel.b8r(af:Rel P o w m B):m o.next=none:=by
 cases h:m o.next with
 |none=>rfl
 |some b=>have:=(af.eP _ _ h).2;omega
theorem Rel.TR(af:Rel P o w m B){ar:Nat}(h:a_ o m ar):ar<w.heap.size:=let⟨_,h1,_⟩:=h;(af.eP _ _ h1).1
theorem J0(af:Rel P o w m B){I:AO}(aj:I.isDead=false)(id:Nat):live (o.push I) id↔id=o.next∨live o id:=by
 unfold live;rw[ad.JZ af.len];by_cases h:id=o.next
 ·subst h;simp[aj]
 ·simp[h]
theorem TS{id:Nat}(h:live o id):id<o.next:=let⟨_,h1,_⟩:=h;ad.ei h1
theorem Rel.alloc(af:Rel P o w m B)(f:Nat)(ao:World)(I:AO)(bE:Obj)(aj:I.isDead=false)(hh:ao.heap=w.heap.push bE)(iP:ao.os=w.os)(kk:ao.tape=w.tape)(iQ:ao.output=w.output)
  (kl:kS P w m (a_ o m) B I bE):Rel P (o.push I) ao (bindM m o.next w.heap.size) B∧Ext f o w m (o.push I) ao (bindM m o.next w.heap.size):=by
 have bZ:ao.heap.size=w.heap.size+1:=by rw[hh];simp
 have hold:∀b,b<w.heap.size→ao.heap[b]? =w.heap[b]? :=fun b hb=>by
  rw[hh,Jz];rw[if_neg (by omega)]
 have nV:ao.heap[w.heap.size]? =some bE:=by rw[hh];simp
 have c3:Ext f o w m (o.push I) ao (bindM m o.next w.heap.size):=by
  refine⟨?_,?_,JA _,by omega,?_,fun b hb _=>hold b hb,?_,?_,iP,kk,iQ,fun id hn _=>ad.fZ af.len I hn⟩
  ·intro id ar h;rw[iy m _ _ (by have:=(af.eP _ _ h).2;omega)];exact h
  ·intro id ar h;by_cases hi:id=o.next
   ·subst hi;rw[gK] at h;cases h;exact .inr ⟨bK _,.inl (bK _)⟩
   ·rw[iy m _ _ hi] at h;exact .inl h
  ·intro b n hb;have:b<w.heap.size:=by
    rcases mF b w.heap.size with h|h
    ·exact h
    ·simp[bsz,xF h] at hb
   unfold bsz at hb ⊢;rw[hold b this];exact hb
  ·intro id _ hn;exact ad.fZ af.len I hn
  ·intro id hn au;rcases(J0 af aj id).1 au with h|h
   ·omega
   ·exact h
 refine⟨⟨trivial,?_,?_,?_,?_,by have:=af.fy;omega⟩,c3⟩
 ·intro id ar h;by_cases hi:id=o.next
  ·subst hi;rw[gK] at h;cases h;exact⟨by omega,nO _⟩
  ·rw[iy m _ _ hi] at h;have:=af.eP _ _ h;exact⟨by omega,AI this.2⟩
 ·intro id ar fe h hg an;by_cases hi:id=o.next
  ·subst hi;rw[gK] at h;cases h;rw[ad.jH] at hg;cases hg;exact⟨bE,nV,kl.mono c3.mono c3.size c3.h7 (c3.pR af)⟩
  ·rw[iy m _ _ hi] at h;have bu:=af.eP _ _ h;rw[ad.fZ af.len I bu.2] at hg;obtain⟨jY,h1,h2⟩:=af.obj id ar fe h hg an;exact⟨jY,by rw[hold _ bu.1];exact h1,h2.mono c3.mono c3.size c3.h7 (c3.pR af)⟩
 ·intro id eR ar h h' au nj;by_cases hi:id=o.next
  ·by_cases dc:eR=o.next
   ·rw[hi,dc]
   ·subst hi;rw[gK] at h;cases h;rw[iy m _ _ dc] at h';have:=(af.eP _ _ h').1;omega
  ·rw[iy m _ _ hi] at h;by_cases dc:eR=o.next
   ·subst dc;rw[gK] at h';cases h';have:=(af.eP _ _ h).1;omega
   ·rw[iy m _ _ dc] at h';exact af.inj id eR ar h h' (((J0 af aj id).1 au).resolve_left hi) (((J0 af aj eR).1 nj).resolve_left dc)
 ·intro id ar h;by_cases hi:id=o.next
  ·subst hi;rw[gK] at h;cases h;exact af.fy
  ·rw[iy m _ _ hi] at h;exact af.base _ _ h
theorem b8s(af:Rel P o w m B){id:Nat}(h:id<o.next)(I:AO)(eR:Nat):live (o.set id I) eR↔if eR=id then I.isDead=false else live o eR:=by
 unfold live;rw[ad.ix af.len I h];by_cases he:eR=id
 ·simp[he]
 ·simp[he]
theorem Rel.TT(af:Rel P o w m B){f id ar:Nat}(hf:f≤id)(hm:m id=some ar)(au:live o id)(ao:World)(I:AO)(bZ:w.heap.size≤ao.heap.size)
  (pT:∀b,b<w.heap.size→b≠ar→ao.heap[b]? =w.heap[b]?) (fU:∀n,bsz w ar=some n→bsz ao ar=some n) (iP:ao.os=w.os) (kk:ao.tape=w.tape) (iQ:ao.output=w.output)
  (kl:I.isDead=false→∃bE,ao.heap[ar]? =some bE∧kS P w m (a_ o m) B I bE):Rel P (o.set id I) ao m B∧Ext f o w m (o.set id I) ao m:=by
 have bu:=af.eP _ _ hm;have oO:∀eR,live (o.set id I) eR→live o eR:=fun eR h=>by
  rw[b8s af bu.2] at h;by_cases he:eR=id
  ·subst he;exact au
  ·rwa[if_neg he] at h
 have c3:Ext f o w m (o.set id I) ao m:=by
  refine⟨fun _ _ h=>h,fun _ _ h=>.inl h,bK _,by omega,?_,?_,?_,fun eR _ h=>oO eR h,iP,kk,iQ,fun eR _ sl=>by rw[ad.ix af.len I bu.2,if_neg (fun e=>by subst e;rw[hm] at sl;cases sl)]⟩
  ·intro b n hb;by_cases he:b=ar
   ·subst he;exact fU n hb
   ·have b8t:=(show b<w.heap.size by unfold bsz at hb;split at hb;rename_i hh;exact vP hh;cases hb)
    unfold bsz at hb ⊢;rw[pT b b8t he];exact hb
  ·intro b hb cY;refine pT b hb fun he=>cY ?_;subst he;exact⟨id,hf,hm,au⟩
  ·intro eR EE hn;rw[ad.ix af.len I bu.2,if_neg (by omega)]
 refine⟨⟨trivial,fun eR b h=>by have:=af.eP _ _ h;exact⟨by omega,this.2⟩,?_,fun i lb b h h' a cq=>af.inj i lb b h h' (oO _ a) (oO _ cq),af.base,by have:=af.fy;omega⟩,c3⟩;intro eR b fe h hg an;by_cases he:eR=id
 ·subst he;rw[hm] at h;cases h;rw[ad.ix af.len I bu.2,if_pos rfl] at hg;cases hg;obtain⟨jY,h1,h2⟩:=kl an;exact⟨jY,h1,h2.mono c3.mono c3.size c3.h7 (c3.pR af)⟩
 ·rw[ad.ix af.len I bu.2,if_neg he] at hg;obtain⟨jY,h1,h2⟩:=af.obj eR b fe h hg an;have bS:b≠ar:=fun e=>he (af.inj eR id ar (e▸h) hm ⟨fe,hg,an⟩ au);exact⟨jY,by rw[pT b (af.eP _ _ h).1 bS];exact h1,h2.mono c3.mono c3.size c3.h7 (c3.pR af)⟩
theorem Rel.c7(af:Rel P o w m B){f id ar:Nat}(hf:f≤id)(hm:m id=some ar)(au:live o id)(ao:World)(I:AO)(bZ:ao.heap.size=w.heap.size)
  (pT:∀b,b≠ar→ao.heap[b]? =w.heap[b]?) (fU:∀n,bsz w ar=some n→bsz ao ar=some n) (iP:ao.os=w.os) (kk:ao.tape=w.tape) (iQ:ao.output=w.output)
  (kl:I.isDead=false→∃bE,ao.heap[ar]? =some bE∧kS P w m (a_ o m) B I bE):Rel P (o.set id I) ao m B∧Ext f o w m (o.set id I) ao m:=af.TT hf hm au ao I (by omega) (fun b _ h=>pT b h) fU iP kk iQ kl
theorem Rel.move(af:Rel P o w m B){f id ar:Nat}(hf:f≤id)(hm:m id=some ar)(au:live o id)(ao:World)(I:AO)(aj:I.isDead=false)(bZ:ao.heap.size=w.heap.size)
  (pT:∀b,b≠ar→ao.heap[b]? =w.heap[b]?) (fU:∀n,bsz w ar=some n→bsz ao ar=some n) (iP:ao.os=w.os) (kk:ao.tape=w.tape) (iQ:ao.output=w.output)
  (kl:∃bE,ao.heap[ar]? =some bE∧kS P w m (a_ o m) B I bE):
  Rel P ((o.set id .dead).push I) ao (bindM m o.next ar) B∧Ext f o w m ((o.set id .dead).push I) ao (bindM m o.next ar):=by
 have bu:=af.eP _ _ hm;have hlen:True:=trivial;have dd:∀i,((o.set id .dead).push I).get i=if i=o.next then some I else if i=id then some .dead else o.get i:=fun i=>by
  rw[ad.JZ hlen I i];show(if i=o.next then some I else _)=_;by_cases h:i=o.next
  ·rw[if_pos h,if_pos h]
  ·rw[if_neg h,if_neg h,ad.ix af.len .dead bu.2]
 have oO:∀i,live ((o.set id .dead).push I) i↔i=o.next∨(i≠id∧live o i):=fun i=>by
  unfold live;rw[dd i];by_cases h:i=o.next
  ·simp[h,aj]
  ·by_cases h':i=id
   ·subst h';simp[h,AO.isDead]
   ·simp[h,h']
 have c3:Ext f o w m ((o.set id .dead).push I) ao (bindM m o.next ar):=by
  refine⟨?_,?_,JA _,by omega,?_,?_,?_,?_,iP,kk,iQ,fun i hn sl=>by rw[dd,if_neg (by omega),if_neg (fun e=>by subst e;rw[hm] at sl;cases sl)]⟩
  ·intro i b h;rw[iy m _ _ (by have:=(af.eP _ _ h).2;omega)];exact h
  ·intro i b h;by_cases hi:i=o.next
   ·subst hi;rw[gK] at h;cases h;exact .inr ⟨bK _,.inr ⟨id,hf,hm,au⟩⟩
   ·rw[iy m _ _ hi] at h;exact .inl h
  ·intro b n hb;by_cases he:b=ar
   ·subst he;exact fU n hb
   ·unfold bsz at hb ⊢;rw[pT b he];exact hb
  ·intro b hb cY;refine pT b fun he=>cY ?_;subst he;exact⟨id,hf,hm,au⟩
  ·intro i EE hn;rw[dd,if_neg (by omega),if_neg (by omega)]
  ·intro i hn h;rcases(oO i).1 h with h|h
   ·omega
   ·exact h.2
 refine⟨⟨trivial,?_,?_,?_,?_,by have:=af.fy;omega⟩,c3⟩
 ·intro i b h;by_cases hi:i=o.next
  ·subst hi;rw[gK] at h;cases h;exact⟨by omega,nO _⟩
  ·rw[iy m _ _ hi] at h;have:=af.eP _ _ h;exact⟨by omega,AI this.2⟩
 ·intro i b fe h hg an;rw[dd] at hg;by_cases hi:i=o.next
  ·subst hi;rw[gK] at h;cases h;rw[if_pos rfl] at hg;cases hg;obtain⟨jY,h1,h2⟩:=kl;exact⟨jY,h1,h2.mono c3.mono c3.size c3.h7 (c3.pR af)⟩
  ·rw[iy m _ _ hi] at h;rw[if_neg hi] at hg;by_cases he:i=id
   ·rw[if_pos he] at hg;cases hg;cases an
   ·rw[if_neg he] at hg;obtain⟨jY,h1,h2⟩:=af.obj i b fe h hg an;have bS:b≠ar:=fun e=>he (af.inj i id ar (e▸h) hm ⟨fe,hg,an⟩ au);exact⟨jY,by rw[pT b bS];exact h1,h2.mono c3.mono c3.size c3.h7 (c3.pR af)⟩
 ·intro i lb b h h' a cq;by_cases hi:i=o.next
  ·by_cases dc:lb=o.next
   ·rw[hi,dc]
   ·subst hi;rw[gK] at h;cases h;rw[iy m _ _ dc] at h';have h3:=((oO lb).1 cq).resolve_left dc;exact absurd (af.inj lb id ar h' hm h3.2 au) h3.1
  ·rw[iy m _ _ hi] at h;have h2:=((oO i).1 a).resolve_left hi;by_cases dc:lb=o.next
   ·subst dc;rw[gK] at h';cases h';exact absurd (af.inj i id ar h hm h2.2 au) h2.1
   ·rw[iy m _ _ dc] at h';exact af.inj i lb b h h' h2.2 (((oO lb).1 cq).resolve_left dc).2
 ·intro i b h;by_cases hi:i=o.next
  ·subst hi;rw[gK] at h;cases h;exact af.base _ _ hm
  ·rw[iy m _ _ hi] at h;exact af.base _ _ h
end
theorem A1(s:ByteArray):strOf (jb s)=s:=by
 unfold strOf jb;have:(s.data.toList.map (·.toNat)).map Nat.toUInt8=s.data.toList:=by
  rw[qY];conv=>rhs;rw[←List.map_id s.data.toList]
  apply pF;intro c _;simp
 rw[this]
theorem A2(s:ByteArray):∀c∈jb s,c<256:=by
 intro c ab;simp only[jb,fq] at ab;obtain⟨x,_,rfl⟩:=ab;exact x.toNat_lt
theorem vQ{α β:Type}{f:α→Option β}:∀ {l:List α} {aZ:List β},mapOL f l=some aZ→aZ.length=l.length∧∀i (h:i<l.length) (h':i<aZ.length),f (l[i])=some (aZ[i])
 |[],aZ,h=>by simp[mapOL] at h;subst h;simp
 |x::xs,aZ,h=>by
  rw[mapOL] at h;split at h
  ·rename_i y jG hx dC;cases h;obtain⟨h1,h2⟩:=vQ dC;refine⟨by simp[h1],fun i hi dc=>?_⟩;cases i with
   |zero=>simpa using hx
   |succ i=>simpa using h2 i (by simpa using hi) (by simpa using dc)
  ·cases h
section
variable {P:Program}{w:World}{m:Nat→Option Nat}{O:Nat→Prop}{B:Nat}
theorem J1{v:Value}{x:AV}(h:ofLeaf v=some x):conf none x=true:=by
 unfold Lyc.ofLeaf at h;split at h<;>cases h<;>rfl
theorem aq.ofLeaf{v:Value}{x:AV}(h:ofLeaf v=some x):aq w m O B x v:=by
 unfold Lyc.ofLeaf at h;split at h<;>cases h
 ·exact .b _
 ·exact .i _ _
 ·rename_i s;have:=aq.s (w:=w) (m:=m) (O:=O) (B:=B) (jb s) (A2 s);rwa[A1] at this
 ·exact .oN
 ·exact .J
 ·exact .pQ
 ·exact .iK
 ·exact .fb
theorem aq.ofValue{v:Value}{x:AV}(h:ofValue v=some x):aq w m O B x v:=by
 unfold Lyc.ofValue at h;split at h
 ·split at h
  ·rename_i l fu hx;cases h;obtain⟨h1,h2⟩:=vQ hx;refine .ag (by rw[←qZ];exact h1.symm) (fun i hi dc=>?_) (fun x hx=>?_)
   ·have:=h2 i (by rw[qZ];exact dc) hi;exact aq.ofLeaf (by simpa using this)
   ·obtain⟨i,hi,rfl⟩:=k8 hx;exact J1 (h2 i (by omega) hi)
  ·cases h
 ·split at h
  ·rename_i hx;cases h;exact .it (aq.ofLeaf hx)
  ·cases h
 ·exact aq.ofLeaf h
theorem bm.get{l:List AV}{aX:List Value}(h:bm w m O B l aX){i:Nat}{v:AV}(av:l[i]? =some v):∃u,aX[i]? =some u∧aq w m O B v u:=by
 obtain⟨hi,rfl⟩:=mG.1 av;have dc:i<aX.length:=by rw[h.1];exact hi
 exact⟨aX[i],cS dc,h.2 i hi dc⟩
theorem bm.nil:bm w m O B [] []:=⟨rfl,fun i h=>by simp at h⟩
theorem bm.cons{x:AV}{u:Value}{l:List AV}{aX:List Value}(h:aq w m O B x u)(au:bm w m O B l aX):bm w m O B (x::l) (u::aX):=
 ⟨by simp[au.1],fun i h1 h2=>by
  cases i with
  |zero=>exact h
  |succ i=>exact au.2 i (by simpa using h1) (by simpa using h2)⟩
theorem bm.append{l dF:List AV}{aX ra:List Value}(h:bm w m O B l aX)(h':bm w m O B dF ra):bm w m O B (l++dF) (aX++ra):=by
 refine⟨by simp[h.1,h'.1],fun i h1 h2=>?_⟩;by_cases hi:i<l.length
 ·rw[AK hi,AK (by rw[h.1];exact hi)];exact h.2 i hi _
 ·rw[AL (by omega),AL (by rw[h.1];omega)];have:i-aX.length=i-l.length:=by rw[h.1]
  simp only[this];exact h'.2 _ _ (by have:=h'.1;have:=h.1;simp at h1 h2;omega)
theorem bm.drop{l:List AV}{aX:List Value}(h:bm w m O B l aX)(k:Nat):bm w m O B (l.drop k) (aX.drop k):=
 ⟨by simp[h.1],fun i h1 h2=>by rw[JB,JB];exact h.2 _ (by simp at h1;omega) (by simp at h2;omega)⟩
theorem bm.take{l:List AV}{aX:List Value}(h:bm w m O B l aX)(k:Nat):bm w m O B (l.take k) (aX.take k):=
 ⟨by simp[h.1],fun i h1 h2=>by rw[AM,AM];exact h.2 _ (by simp at h1;omega) (by simp at h2;omega)⟩
theorem aq.vR{l:List AV}{aX:List Value}(h:bm w m O B l aX)(hf:∀x∈l,conf none x=true):aq w m O B (.ag l) (.agg aX.toArray):=
 .ag (by simp[h.1]) (fun i h1 h2=>by simpa using h.2 i h1 (by simpa using h2)) hf
theorem aq.oP{l:List AV}{u:Value}(h:aq w m O B (.ag l) u):∃aX:Array Value,u= .agg aX∧bm w m O B l aX.toList∧∀x∈l,conf none x=true:=by
 cases h with
 |ag hs af hf=>exact⟨_,rfl,⟨by simpa using hs,fun i h1 h2=>by simpa using af i h1 (by simpa using h2)⟩,hf⟩
theorem aq.J2{l:List AV}{u:Value}(h:aq w m O B (.aK l) u):∃aX:Array Value,u= .tuple aX∧bm w m O B l aX.toList:=by
 cases h with
 |aK hs af=>exact⟨_,rfl,by simpa using hs,fun i h1 h2=>by simpa using af i h1 (by simpa using h2)⟩
theorem aq.sm{l:List AV}{aX:List Value}(h:bm w m O B l aX):aq w m O B (.aK l) (.tuple aX.toArray):=
 .aK (by simp[h.1]) (fun i h1 h2=>by simpa using h.2 i h1 (by simpa using h2))
theorem aq.undef:aq w m O B dw undef:=.aK rfl (fun i h=>by simp at h)
theorem aq.cells{v:AV}{u:Value}(h:aq w m O B v u):bm w m O B v.cells u.cells.toList:=by
 have h0:=h;cases h with
 |ag hs af hf=>obtain⟨aX,hu,au,_⟩:=aq.oP h0;cases hu;exact au
 |y h=>rcases h.alt with⟨_,_,rfl⟩|⟨_,rfl⟩<;>exact bm.cons h0 bm.nil
 |eN hu h=>subst hu;exact bm.cons h0 bm.nil
 |_=>exact bm.cons h0 bm.nil
theorem aq.EF{v:AV}{u:Value}{R:Option Nat}(h:aq w m O B v u)(ab:conf R v=true):∀x∈v.cells,conf none x=true:=by
 cases h with
 |ag hs af hf=>exact hf
 |aK hs af=>cases R<;>simp[conf] at ab
 |_=>intro x hx;simp only[AV.cells,e3] at hx;subst hx;rfl
theorem aq.J3{v:AV}{u:Value}(h:aq w m O B v u)(av:conf none v=true):u.oneCell'=true:=by
 cases h with
 |y h=>rcases h.alt with⟨_,_,rfl⟩|⟨_,rfl⟩<;>rfl
 |eN hu h=>subst hu;rfl
 |_=>first|rfl|(simp[conf] at av)
theorem jI{t:TypeId}{R:Option Nat}(h:shapeOf P t=some R)(w:World):
  (isAgg t).run P w= .ok R.isSome w∧(sizeOf t).run P w= .ok (shN R) w∧∃i,P.info? t=some i∧i.size=shN R:=by
 unfold shapeOf at h;split at h<;>try (cases h;done)
 ·rename_i fs i hu hi;cases h;exact⟨by simp[isAgg,run_underlying hu],by simp[sizeOf,typeInfo,hi,shN],i,hi,rfl⟩
 ·rename_i n e i hu hi;cases h;exact⟨by simp[isAgg,run_underlying hu],by simp[sizeOf,typeInfo,hi,shN],i,hi,rfl⟩
 ·rename_i d i h1 h2 hu hi;split at h
  ·rename_i hs;cases h;refine⟨?_,by simp[sizeOf,typeInfo,hi,shN,hs],i,hi,by simp[shN,hs]⟩;simp only[isAgg,er,run_underlying hu,ez];cases d<;>first|rfl|(exfalso;first|exact h1 _ rfl|exact h2 _ _ rfl)
  ·cases h
theorem iz(b I k:Nat):(⟨b,I,none⟩:Addr).add k=⟨b,I+k,none⟩:=by
 unfold Addr.add;split
 ·rename_i h;subst h;rfl
 ·rfl
theorem EG{c:List AV}{v:AV}(h:eA none c=some v):∃r,c=v::r:=by
 cases c with
 |nil=>simp[eA] at h
 |cons x r=>simp[eA] at h;subst h;exact⟨r,rfl⟩
theorem EH{n:Nat}{c:List AV}{v:AV}(h:eA (some n) c=some v):v= .ag (c.take n)∧n≤c.length:=by
 simp only[eA] at h;split at h
 ·rename_i au;cases h;refine⟨rfl,?_⟩;rw[l9] at au;omega
 ·cases h
theorem TU{t:TypeId}{R:Option Nat}(f_:shapeOf P t=some R){b off:Nat}{aX:List Value}{c:List AV}(ab:bm w m O B c aX)
  (hw:∀j,j<aX.length→w.cell? ⟨b,off+j,none⟩=aX[j]?) {v:AV} (av:eA R c=some v) (hf:∀x∈c,conf none x=true):
  ∃u,(loadVar t ⟨b,off,none⟩).run P w= .ok u w∧aq w m O B v u:=by
 obtain⟨h1,h2,_⟩:=jI f_ w;cases R with
 |none=>
  obtain⟨r,rfl⟩:=EG av;obtain⟨u,hu,af⟩:=ab.get (i:=0) (v:=v) rfl;have:=hw 0 (by rw[ab.1];simp);rw[vA,hu] at this;exact⟨u,by simp[loadVar,h1,this],af⟩
 |some n=>
  obtain⟨rfl,hn⟩:=EH av;have hlen:(aX.take n).length=n:=by rw[l9,ab.1];omega
  have au:=run_loadCells_list (P:=P) w ⟨b,off,none⟩ (aX.take n) (fun j x hx=>by
   rw[iz];obtain⟨aB,ga⟩:=mG.1 hx;rw[hw j (by rw[l9] at aB;omega)];rw[AM] at ga;rw[←ga];exact cS _)
  rw[hlen] at au;refine⟨.agg (aX.take n).toArray,by simp[loadVar,h1,h2,shN,au],aq.vR (ab.take n) (fun x hx=>hf x (sa hx))⟩
end
section
variable {P:Program}{o:ad}{w:World}{m:Nat→Option Nat}{B:Nat}
theorem Rel.cells(af:Rel P o w m B){id ar:Nat}{c:List AV}(hm:m id=some ar)(hg:o.get id=some (.cells c)):
  ∃arr el aT,w.heap[ar]? =some (.cells arr el aT)∧bm w m (a_ o m) B c (arr.toList.take c.length)∧c.length≤arr.size∧(∀i,i<arr.size→(decide (aT.1≤i)&&decide (i<aT.2))=false)∧∀x∈c,conf none x=true:=by
 obtain⟨bE,h1,h2⟩:=af.obj id ar _ hm hg rfl;cases h2 with
 | @cells _ arr el aT au gC bw hf=>
  refine⟨arr,el,aT,h1,⟨by simp;omega,fun i h3 aN=>?_⟩,au,bw,hf⟩;simpa using gC i h3 (by omega)
theorem vS{b:Nat}{arr:Array Value}{el:TypeId}{aT:Nat×Nat}(h:w.heap[b]? =some (.cells arr el aT))(i:Nat):w.cell? ⟨b,i,none⟩=arr[i]? :=by
 simp[World.cell?,h]
theorem EI{b:Nat}{arr:Array Value}{el:TypeId}{aT:Nat×Nat}(h:w.heap[b]? =some (.cells arr el aT))(i:Nat):w.frozen? ⟨b,i,none⟩=(decide (aT.1≤i)&&decide (i<aT.2)):=by
 simp[World.frozen?,h]
theorem TV(af:Rel P o w m B){t:TypeId}{R:Option Nat}(f_:shapeOf P t=some R){id off ar:Nat}{c:List AV}{v:AV}(hm:m id=some ar)(hg:o.get id=some (.cells c))(av:eA R (c.drop off)=some v):
  ∃u,(loadVar t ⟨ar,off,none⟩).run P w= .ok u w∧aq w m (a_ o m) B v u:=by
 obtain⟨arr,el,aT,h1,h2,h3,_,hf⟩:=af.cells hm hg;refine TU f_ (h2.drop off) (fun j aB=>?_) av (fun x hx=>hf x (mH hx));rw[vS h1];simp only[AN,l9,qZ] at aB;rw[pG,q0 (by omega)];simp
theorem b8u{O:Nat→Prop}{t:TypeId}{R:Option Nat}(f_:shapeOf P t=some R){old:Bool}{v:AV}{u:Value}(h:aq w m O B (.cG old v) u)(av:conf R v=true):
  ∃a bL,u= .pointer (some a)∧(loadVar t a).run P w= .ok bL w∧aq w m O B v bL:=by
 cases h with
 | @cG _ _ _ _ _ ar off aZ cY hb fc ab gC hf=>
  have au:bm w m O B v.cells ((List.range v.cells.length).map aZ):=⟨by simp,fun i h1 h2=>by simpa using (gC i h1).up⟩
  have ht:eA R v.cells=some v:=by
   cases R with
   |none=>cases v<;>first|rfl|(simp[conf] at av)
   |some n=>
    cases v<;>simp[conf] at av;rename_i l;subst av;simp[eA,AV.cells]
  obtain⟨bL,h1,h2⟩:=TU (t:=t) f_ (b:=ar) (off:=off) au (fun j aB=>by
   simp only[dO,Tj] at aB;rw[ab j aB];simp[aB]) ht hf
  exact⟨_,bL,rfl,h1,h2⟩
theorem vT{c bR:List AV}{off:Nat}{v:List AV}(h:storeCells c off v=some bR):off+v.length≤c.length∧bR=c.take off++(v++c.drop (off+v.length)):=by
 unfold Lyc.storeCells at h;split at h
 ·rename_i hb;cases h;exact⟨eY hb,rfl⟩
 ·cases h
theorem J4(af:Rel P o w m B){f id off ar:Nat}{c bR:List AV}{aX:List AV}{us:List Value}(hf:f≤id)(hm:m id=some ar)(hg:o.get id=some (.cells c))
  (hs:Lyc.storeCells c off aX=some bR) (jZ:bm w m (a_ o m) B aX us) (nW:∀x∈aX,conf none x=true):
  ∃ao,(Go.storeCells ⟨ar,off,none⟩ us).run P w= .ok () ao∧Rel P (o.set id (.cells bR)) ao m B∧Ext f o w m (o.set id (.cells bR)) ao m:=by
 obtain⟨hle,rfl⟩:=vT hs;obtain⟨arr,el,aT,hh,ab,me,bw,jq⟩:=af.cells hm hg;have hlen:us.length=aX.length:=jZ.1;have h1:∀u∈us,u.oneCell'=true:=fun u hu=>by
  obtain⟨i,hi,rfl⟩:=k8 hu;exact(jZ.2 i (by omega) hi).J3 (nW _ (cB _))
 have bX:=run_storeCells_cells (P:=P) ar off us 0 w
  (fun j aB=>by rw[vS hh,l_ (by omega)];rfl)
  (fun j aB=>by rw[EI hh];exact bw _ (by omega)) h1
 obtain⟨r1,jJ,km,pU⟩:=ED us w ar (off+0);have rb:=EC us w ar (off+0) arr el aT hh;refine⟨_,bX,af.c7 hf hm ⟨_,hg,rfl⟩ _ (.cells _) r1 (fun b hb=>heap_setCells_other us w ar _ b hb) ?_ jJ km pU (fun _=>⟨_,rb,?_⟩)⟩
 ·intro n hn;unfold bsz at hn ⊢;rw[hh] at hn;rw[rb];simpa [q_] using hn
 ·have dd:∀i,(wr arr (off+0) us)[i]? =if off≤i∧i<off+us.length then us[i-off]? else arr[i]? :=fun i=>by
   have:=xV us arr (off+0) i (by omega);simpa using this
  have nX:(c.take off++(aX++c.drop (off+aX.length))).length=c.length:=by simp;omega
  refine .cells (by rw[q_,nX];exact me) (fun i h h'=>?_) (by rw[q_];exact bw) (fun x hx=>by
    rcases e4.1 hx with hx|hx
    ·exact jq x (sa hx)
    ·rcases e4.1 hx with hx|hx
     ·exact nW x hx
     ·exact jq x (mH hx))
  rw[nX] at h;have hi:=dd i;rw[l_ h'] at hi;have hL:(c.take off++(aX++c.drop (off+aX.length)))[i]? =if off≤i∧i<off+us.length then aX[i-off]? else c[i]? :=by
   rw[vB];simp only[l9];by_cases bH:i<off
   ·rw[if_pos (by omega),if_neg (by omega),q0 bH]
   ·rw[if_neg (by omega),vB];by_cases de:i-min off c.length<aX.length
    ·rw[if_pos de,if_pos (by omega),show min off c.length=off by omega]
    ·rw[if_neg de,if_neg (by omega),pG]
     congr 1;omega
  have pV:(c.take off++(aX++c.drop (off+aX.length)))[i]? =some ((c.take off++(aX++c.drop (off+aX.length)))[i]'(by rw[nX];exact h)):=cS _;rw[hL] at pV;by_cases fV:off≤i∧i<off+us.length
  ·rw[if_pos fV] at pV hi;obtain⟨u,hu,hE⟩:=jZ.get pV;rw[hu] at hi;cases hi;exact hE
  ·rw[if_neg fV] at pV hi;obtain⟨u,hu,hE⟩:=ab.get pV;rw[q0 h] at hu;have:arr[i]? =some u:=by simpa using hu
   rw[this] at hi;cases hi;exact hE
theorem Rel.gI(af:Rel P o w m B){id ar r:Nat}{c:List AV}(hm:m id=some ar)(hg:o.get id=some (.gI c r)):
  ∃arr el aT,w.heap[ar]? =some (.cells arr el aT)∧bm w m (a_ o m) B c (arr.toList.take c.length)∧c.length+r≤arr.size∧(∀i,i<arr.size→(decide (aT.1≤i)&&decide (i<aT.2))=false)∧∀x∈c,conf none x=true:=by
 obtain⟨bE,h1,h2⟩:=af.obj id ar _ hm hg rfl;cases h2 with
 | @gI _ _ arr el aT au gC bw hf=>
  refine⟨arr,el,aT,h1,⟨by simp;omega,fun i h3 aN=>?_⟩,au,bw,hf⟩;simpa using gC i h3 (by omega)
theorem b8v{O:Nat→Prop}{c bR:List AV}{off:Nat}{aX:List AV}{us:List Value}{arr:Array Value}(ab:bm w m O B c (arr.toList.take c.length))(me:c.length≤arr.size)(hs:Lyc.storeCells c off aX=some bR)(jZ:bm w m O B aX us):
  bR.length=c.length∧∀i (h:i<bR.length) (h':i<(wr arr (off+0) us).size),aq w m O B (bR[i]) ((wr arr (off+0) us)[i]):=by
 obtain⟨hle,rfl⟩:=vT hs;have hlen:us.length=aX.length:=jZ.1;have dd:∀i,(wr arr (off+0) us)[i]? =if off≤i∧i<off+us.length then us[i-off]? else arr[i]? :=fun i=>by
  have:=xV us arr (off+0) i (by omega);simpa using this
 have nX:(c.take off++(aX++c.drop (off+aX.length))).length=c.length:=by simp;omega
 refine⟨nX,fun i h h'=>?_⟩;rw[nX] at h;have hi:=dd i;rw[l_ h'] at hi;have hL:(c.take off++(aX++c.drop (off+aX.length)))[i]? =if off≤i∧i<off+us.length then aX[i-off]? else c[i]? :=by
  rw[vB];simp only[l9];by_cases bH:i<off
  ·rw[if_pos (by omega),if_neg (by omega),q0 bH]
  ·rw[if_neg (by omega),vB];by_cases de:i-min off c.length<aX.length
   ·rw[if_pos de,if_pos (by omega),show min off c.length=off by omega]
   ·rw[if_neg de,if_neg (by omega),pG]
    congr 1;omega
 have pV:(c.take off++(aX++c.drop (off+aX.length)))[i]? =some ((c.take off++(aX++c.drop (off+aX.length)))[i]'(by rw[nX];exact h)):=cS _;rw[hL] at pV;by_cases fV:off≤i∧i<off+us.length
 ·rw[if_pos fV] at pV hi;obtain⟨u,hu,hE⟩:=jZ.get pV;rw[hu] at hi;cases hi;exact hE
 ·rw[if_neg fV] at pV hi;obtain⟨u,hu,hE⟩:=ab.get pV;rw[q0 h] at hu;have:arr[i]? =some u:=by simpa using hu
  rw[this] at hi;cases hi;exact hE
theorem b8w(af:Rel P o w m B){f id off ar r:Nat}{c bR:List AV}{aX:List AV}{us:List Value}(hf:f≤id)(hm:m id=some ar)(hg:o.get id=some (.gI c r))
  (hs:(cond (Nat.ble c.length off&&Nat.ble (off+aX.length) (c.length+r)) (some c) (Lyc.storeCells c off aX))=some bR) (jZ:bm w m (a_ o m) B aX us) (nW:∀x∈aX,conf none x=true):
  ∃ao,(Go.storeCells ⟨ar,off,none⟩ us).run P w= .ok () ao∧Rel P (o.set id (.gI bR r)) ao m B∧Ext f o w m (o.set id (.gI bR r)) ao m:=by
 obtain⟨arr,el,aT,hh,ab,me,bw,jq⟩:=af.gI hm hg;have hlen:us.length=aX.length:=jZ.1;have key:off+aX.length≤arr.size∧bR.length=c.length∧(∀x∈bR,conf none x=true)∧∀i (h:i<bR.length) (h':i<(wr arr (off+0) us).size),aq w m (a_ o m) B (bR[i]) ((wr arr (off+0) us)[i]):=by
  cases aI:(Nat.ble c.length off&&Nat.ble (off+aX.length) (c.length+r)) with
  |true=>
   rw[aI,cond_true] at hs;cases hs;simp only[bT] at aI;have gM:=eY aI.1;have fz:=eY aI.2;refine⟨by omega,rfl,jq,fun i h h'=>?_⟩;have hi:=xV us arr (off+0) i (by omega);rw[l_ h',if_neg (by omega)] at hi;obtain⟨u,hu,hE⟩:=ab.get (cS h);rw[q0 h] at hu;have:arr[i]? =some u:=by simpa using hu
   rw[this] at hi;cases hi;exact hE
  |false=>
   rw[aI,cond_false] at hs;obtain⟨h1,h2⟩:=b8v ab (by omega) hs jZ;obtain⟨hle,rfl⟩:=vT hs;refine⟨by omega,h1,fun x hx=>?_,h2⟩;rcases e4.1 hx with hx|hx
   ·exact jq x (sa hx)
   ·rcases e4.1 hx with hx|hx
    ·exact nW x hx
    ·exact jq x (mH hx)
 obtain⟨hle,jK,b8x,b9⟩:=key;have h1:∀u∈us,u.oneCell'=true:=fun u hu=>by
  obtain⟨i,hi,rfl⟩:=k8 hu;exact(jZ.2 i (by omega) hi).J3 (nW _ (cB _))
 have bX:=run_storeCells_cells (P:=P) ar off us 0 w
  (fun j aB=>by rw[vS hh,l_ (by omega)];rfl)
  (fun j aB=>by rw[EI hh];exact bw _ (by omega)) h1
 obtain⟨r1,jJ,km,pU⟩:=ED us w ar (off+0);have rb:=EC us w ar (off+0) arr el aT hh;refine⟨_,bX,af.c7 hf hm ⟨_,hg,rfl⟩ _ (.gI _ _) r1 (fun b hb=>heap_setCells_other us w ar _ b hb) ?_ jJ km pU (fun _=>⟨_,rb,?_⟩)⟩
 ·intro n hn;unfold bsz at hn ⊢;rw[hh] at hn;rw[rb];simpa [q_] using hn
 ·exact .gI (by rw[q_,jK];exact me) b9 (by rw[q_];exact bw) b8x
end
def e7(P:Program)(B f:Nat)(o:ad)(w:World)(m:Nat→Option Nat)(v:AV)(ah:ad)(r:Result Next):Prop:=
 ∃u ao aG,(r= .ok (.value u) ao∨(r= .ok .skip ao∧u=undef))∧aq ao aG (a_ ah aG) B v u∧Rel P ah ao aG B∧Ext f o w m ah ao aG
section
variable {P:Program}{o:ad}{w:World}{m:Nat→Option Nat}{B:Nat}{f:Nat}
theorem e7.pure{v:AV}{u:Value}{r:Result Next}(af:Rel P o w m B)(h:r= .ok (.value u) w)(av:aq w m (a_ o m) B v u):e7 P B f o w m v o r:=
 ⟨u,w,m,.inl h,av,af,Ext.refl _ _ _ _⟩
def Globs(env:Env)(w:World)(B:Nat):Prop:=
 ∀g v,env.jm g=some v→∀dp,aq w (fun _=>none) (fun b=>B≤b) dp (.cG true v) (.pointer (some ⟨g,0,none⟩))
theorem Globs.get{env:Env}{O:Nat→Prop}(h:Globs env w B)(cY:∀b,O b→B≤b){g:Nat}{v:AV}(hg:env.jm g=some v):aq w m O B (.cG true v) (.pointer (some ⟨g,0,none⟩)):=
 (h g v hg B).mono (fun _ _ h=>by cases h) (bK _) (fun _ _ h=>h) (fun b _ hb=>⟨rfl,fun aj=>hb (cY b aj)⟩)
theorem J5{env:Env}{O:Nat→Prop}(cY:∀b,O b→B≤b)(eS:Globs env w B){al:aP AV}{a:Act}(hs:iw w m O B al a.tmps.toList){x:Operand}{bq:az}(hx:opdOf x=some bq){v:AV}(av:evalA env al bq=some v):
  aq w m O B v (a.eval x):=by
 cases x with
 |tmp t=>
  cases hx;obtain⟨u,hu,af⟩:=hs.1 t v av;have:a.eval (.tmp t)=u:=by
   simp only[Act.eval];rw[lB] at hu;simp[hu]
  rw[this];exact af
 |const c=>
  simp only[opdOf] at hx;split at hx<;>cases hx;rename_i bJ ab;simp only[evalA,ca] at av;subst av;exact aq.ofValue ab
 |func g=>
  cases hx;simp only[evalA,ca] at av;subst av;exact .ni rfl (fun i h=>by simp at h) rfl (fun i h=>by simp at h)
 |_=>
  cases hx;simp only[evalA] at av;split at av<;>cases av;rename_i bJ hg;exact eS.get cY hg
theorem A3{env:Env}{O:Nat→Prop}(cY:∀b,O b→B≤b)(eS:Globs env w B){al:aP AV}{a:Act}(hs:iw w m O B al a.tmps.toList){xs:List Operand}{bq:List az}(hx:vN xs=some bq){aX:List AV}(av:mapO (evalA env al) bq=some aX):
  bm w m O B aX (xs.map a.eval):=by
 obtain⟨h1,h2⟩:=vQ hx;obtain⟨h3,aN⟩:=nT av;refine⟨by simp[h1,h3],fun i hi dc=>?_⟩;simp only[ma];have xW:i<bq.length:=by omega
 have b8y:i<xs.length:=by omega
 exact J5 cY eS hs (h2 i b8y xW) (aN i xW hi)
theorem b8z(af:Rel P o w m B){t:TypeId}{R:Option Nat}(f_:shapeOf P t=some R){vU v:AV}{u:Value}(hp:aq w m (a_ o m) B vU u)
  (h:q6 o R vU=some v):∃bL,(Instr.loadAt t u).run P w= .ok bL w∧aq w m (a_ o m) B v bL:=by
 unfold q6 at h;cases hp with
 | @p _ _ _ id ar off hm=>
  simp only at h;cases hg:o.get id with
  |none=>simp[hg] at h
  |some I=>
   cases I<;>simp only[hg] at h<;>try (cases h;done)
   obtain⟨bL,h1,h2⟩:=TV af f_ hm hg h;exact⟨bL,by simp[Instr.loadAt,Instr.sureAddr,h1],h2⟩
 |cG aZ cY hb fc ab gC hf=>
  simp only at h;split at h
  ·rename_i av;cases h;obtain⟨a,bL,ha,h1,h2⟩:=b8u (O:=a_ o m) f_ (.cG aZ cY hb fc ab gC hf) av;cases ha;exact⟨bL,by simp[Instr.loadAt,Instr.sureAddr,h1],h2⟩
  ·cases h
 |_=>simp at h
theorem TW{R:Option Nat}{v:AV}{u:Value}{O:Nat→Prop}(av:aq w m O B v u)(ab:conf R v=true):u.cells.size=shN R∧v.cells.length=shN R:=by
 have h:=av.cells.1;cases R with
 |none=>cases v<;>simp[conf,AV.cells,shN] at ab h ⊢ <;>exact h
 |some n=>cases v<;>simp[conf,AV.cells,shN] at ab h ⊢;omega
theorem b8A(af:Rel P o w m B){t:TypeId}{R:Option Nat}(f_:shapeOf P t=some R){id off ar:Nat}{c bR:List AV}{x:AV}{u:Value}(hf:f≤id)(hm:m id=some ar)(hg:o.get id=some (.cells c))(ab:conf R x=true)
  (hs:Lyc.storeCells c off x.cells=some bR) (hx:aq w m (a_ o m) B x u):
  ∃ao,(Instr.storeAt t (.pointer (some ⟨ar,off,none⟩)) u).run P w= .ok () ao∧Rel P (o.set id (.cells bR)) ao m B∧Ext f o w m (o.set id (.cells bR)) ao m:=by
 obtain⟨ao,h2,h3,aN⟩:=J4 af hf hm hg hs hx.cells (hx.EF ab);obtain⟨_,bZ,_⟩:=jI f_ w;refine⟨ao,?_,h3,aN⟩;simp only[Instr.storeAt,Instr.sureAddr,er,gX,ez,storeVar,bZ,(TW hx ab).1,ne_eq,not_true_eq_false,if_false];exact h2
theorem b8B(af:Rel P o w m B){t:TypeId}{R:Option Nat}(f_:shapeOf P t=some R){id off ar r:Nat}{c bR:List AV}{x:AV}{u:Value}(hf:f≤id)(hm:m id=some ar)(hg:o.get id=some (.gI c r))(ab:conf R x=true)
  (hs:(cond (Nat.ble c.length off&&Nat.ble (off+x.cells.length) (c.length+r)) (some c) (Lyc.storeCells c off x.cells))=some bR) (hx:aq w m (a_ o m) B x u):
  ∃ao,(Instr.storeAt t (.pointer (some ⟨ar,off,none⟩)) u).run P w= .ok () ao∧Rel P (o.set id (.gI bR r)) ao m B∧Ext f o w m (o.set id (.gI bR r)) ao m:=by
 obtain⟨ao,h2,h3,aN⟩:=b8w af hf hm hg hs hx.cells (hx.EF ab);obtain⟨_,bZ,_⟩:=jI f_ w;refine⟨ao,?_,h3,aN⟩;simp only[Instr.storeAt,Instr.sureAddr,er,gX,ez,storeVar,bZ,(TW hx ab).1,ne_eq,not_true_eq_false,if_false];exact h2
theorem EJ(af:Rel P o w m B)(f:Nat){el:TypeId}{c:List AV}{cs:Array Value}(ab:bm w m (a_ o m) B c cs.toList)(hf:∀x∈c,conf none x=true):
  ∃ao aG,(newRow el cs).run P w= .ok ⟨w.heap.size,0,none⟩ ao∧aG o.next=some w.heap.size∧ao.heap[w.heap.size]? =some (.cells cs el (0,0))∧Rel P (o.push (.cells c)) ao aG B∧Ext f o w m (o.push (.cells c)) ao aG:=by
 obtain⟨h1,h2⟩:=af.alloc f {w with heap:=w.heap.push (.cells cs el)} (.cells c) (.cells cs el) rfl rfl rfl rfl rfl
  (.cells (by have:=ab.1;simp at this;omega) (fun i h h'=>by have:=ab.2 i h (by simpa using h');simpa using this) (fun i _=>by simp) hf)
 exact⟨_,_,by simp[newRow],gK _ _ _,by simp,h1,h2⟩
theorem b8C(af:Rel P o w m B){el:TypeId}{x:AV}{u:Value}(hx:aq w m (a_ o m) B x u)(hf:∀y∈x.cells,conf none y=true):
  ∃bL ao aG,(Instr.box el u).run P w= .ok bL ao∧aq ao aG (a_ (o.push (.cells x.cells)) aG) B (jn o.next 0) bL∧Rel P (o.push (.cells x.cells)) ao aG B∧Ext f o w m (o.push (.cells x.cells)) ao aG:=by
 obtain⟨ao,aG,h1,h2,_,h3,aN⟩:=EJ af f (el:=el) hx.cells hf;exact⟨_,ao,aG,by simp[Instr.box,newVar,h1],.p h2,h3,aN⟩
theorem b8D{v:Value}{x:AV}(h:ofValue v=some x):∀y∈x.cells,conf none y=true:=by
 unfold Lyc.ofValue at h;split at h
 ·split at h
  ·rename_i l fu hx;cases h;intro y aJ;obtain⟨i,hi,rfl⟩:=k8 aJ;exact J1 ((vQ hx).2 i (by have:=(vQ hx).1;simp only[AV.cells] at hi;omega) hi)
  ·cases h
 ·split at h
  ·cases h;intro y aJ;simp only[AV.cells,e3] at aJ;subst aJ;rfl
  ·cases h
 ·have ab:=J1 h;cases x<;>first|(intro y aJ;simp only[AV.cells,e3] at aJ;subst aJ;exact ab)|(simp[conf] at ab)
theorem pW{t:TypeId}{z:AV}(h:zeroOf P t=some z)(w:World):∃u,(zeroValue t).run P w= .ok u w∧(∀w m O B,aq w m O B z u)∧∀y∈z.cells,conf none y=true:=by
 unfold zeroOf at h;split at h<;>try (cases h;done)
 rename_i i hi;split at h<;>try (cases h;done)
 rename_i v av;exact⟨v,by simp[zeroValue,typeInfo,hi,av],fun w m O B=>aq.ofValue h,b8D h⟩
theorem b8E(af:Rel P o w m B){t:TypeId}{z:AV}(bw:zeroOf P t=some z):
  ∃bL ao aG,(Instr.alloc t true (.tuple #[])).run P w= .ok bL ao∧aq ao aG (a_ (o.push (.cells z.cells)) aG) B (jn o.next 0) bL∧Rel P (o.push (.cells z.cells)) ao aG B∧Ext f o w m (o.push (.cells z.cells)) ao aG:=by
 obtain⟨u,h1,h2,hf⟩:=pW bw w;obtain⟨ao,aG,h3,aN,_,bH,de⟩:=EJ af f (el:=t) (h2 w m (a_ o m) B).cells hf;exact⟨_,ao,aG,by simp[Instr.alloc,h1,newVar,h3],.p aN,bH,de⟩
theorem TX(k:IntKind)(n:Int):wrapN k n=k.wrap n:=by
 unfold wrapN;split
 ·rename_i x;cases h:Nat.blt x 9223372036854775808 with
  |false=>rfl
  |true=>
   have hx:x<9223372036854775808:=by simpa [fX] using h
   show Int.ofNat x=IntKind.i64.wrap (Int.ofNat x);have:(Int.ofNat x:Int)=(x:Int):=rfl;rw[this];have e:(x:Int)%2^64=x:=JC (by omega) (by omega);simp only[IntKind.wrap,IntKind.bits,IntKind.signed,e];rw[if_neg (by simp;omega)]
 ·rfl
end
section
variable {P:Program}{w:World}{m:Nat→Option Nat}{O:Nat→Prop}{B:Nat}
theorem A4{v:AV}{n:Nat}(h:natOf v=some n):∃k,v= .i k (Int.ofNat n):=by
 unfold natOf at h;split at h<;>cases h;exact⟨_,rfl⟩
theorem TY{a b:Nat}(ha:a<256)(hb:b<256)(h:a.toUInt8=b.toUInt8):a=b:=by
 have:=congrArg UInt8.toNat h;simp at this;omega
theorem TZ{a b:Nat}(ha:a<256)(hb:b<256):a.toUInt8<b.toUInt8↔a<b:=by
 rw[JD];simp;omega
theorem T0(l:List Nat):(strOf l).data.toList=l.map Nat.toUInt8:=by simp[strOf]
theorem xX(l:List Nat):(strOf l).toList=l.map Nat.toUInt8:=by
 rw[Go.ByteArray.toList_eq,T0]
theorem tH(l:List Nat):(strOf l).size=l.length:=by
 show(strOf l).data.size=_;simp[strOf]
theorem kU:∀(x y:List Nat),eqL x y=true↔x=y
 |[],[]=>by simp[eqL]
 |[],_::_=>by simp[eqL]
 |_::_,[]=>by simp[eqL]
 |a::x,b::y=>by
  show(cond (Nat.beq a b) (eqL x y) false)=true↔_;cases h:Nat.beq a b with
  |false=>
   simp only[cond_false,oH,false_iff,q1,not_and];intro e;subst e;simp[fR] at h
  |true=>
   have:a=b:=eM h;subst this;simp[kU x y]
theorem J6:∀(x y:List Nat),(∀c∈x,c<256)→(∀c∈y,c<256)→x.map Nat.toUInt8=y.map Nat.toUInt8→x=y
 |[],[],_,_,_=>rfl
 |[],_::_,_,_,h=>by simp at h
 |_::_,[],_,_,h=>by simp at h
 |a::x,b::y,hx,aJ,h=>by
  simp only[k9,q1] at h;rw[TY (hx a (by simp)) (aJ b (by simp)) h.1,J6 x y (fun c ab=>hx c (by simp[ab])) (fun c ab=>aJ c (by simp[ab])) h.2]
theorem b8F{x y:List Nat}(hx:∀c∈x,c<256)(aJ:∀c∈y,c<256):((strOf x).toList==(strOf y).toList)=eqL x y:=by
 rw[hD,kU,beq_iff_eq,xX,xX];exact⟨J6 x y hx aJ,fun h=>by rw[h]⟩
theorem T1:∀(x y:List Nat),(∀c∈x,c<256)→(∀c∈y,c<256)→Op.bytesLess (x.map Nat.toUInt8) (y.map Nat.toUInt8)=fS x y
 |[],[],_,_=>rfl
 |[],_::_,_,_=>rfl
 |_::_,[],_,_=>rfl
 |a::x,b::y,hx,aJ=>by
  have ha:=hx a (by simp);have hb:=aJ b (by simp);have ay:=T1 x y (fun c ab=>hx c (by simp[ab])) (fun c ab=>aJ c (by simp[ab]));show(decide (a.toUInt8<b.toUInt8)||(a.toUInt8==b.toUInt8&&Op.bytesLess (x.map Nat.toUInt8) (y.map Nat.toUInt8)))=cond (Nat.blt a b) true (cond (Nat.beq a b) (fS x y) false);rw[ay];by_cases h:a<b
  ·have h1:Nat.blt a b=true:=by simpa [fX] using h
   have h2:=(TZ ha hb).2 h;simp[h1,h2]
  ·have h1:Nat.blt a b=false:=by
    cases h3:Nat.blt a b
    ·rfl
    ·exact absurd (by simpa [fX] using h3) h
   have h2:¬a.toUInt8<b.toUInt8:=fun aN=>h ((TZ ha hb).1 aN);by_cases he:a=b
   ·subst he;simp[h1]
   ·have aN:Nat.beq a b=false:=by
     cases bH:Nat.beq a b
     ·rfl
     ·exact absurd (eM bH) he
    have bH:¬a.toUInt8=b.toUInt8:=fun de=>he (TY ha hb de);simp[h1,h2,aN,bH]
theorem aq.nY{l:List Nat}{u:Value}(h:aq w m O B (.s l) u):u= .string (strOf l)∧∀c∈l,c<256:=by
 cases h with
 |s _ h=>exact⟨rfl,h⟩
theorem aq.kB{k:IntKind}{n:Int}{u:Value}(h:aq w m O B (.i k n) u):u= .int k n:=by cases h;rfl
theorem aq.tI{x:Bool}{u:Value}(h:aq w m O B (.b x) u):u= .bool x:=by cases h;rfl
theorem aq.sn{id off:Nat}{u:Value}(h:aq w m O B (.p (some (id,off))) u):∃ar,m id=some ar∧u= .pointer (some ⟨ar,off,none⟩):=by
 cases h with
 |p h=>exact⟨_,h,rfl⟩
theorem aq.EK{id:Nat}{u:Value}(h:aq w m O B (.m (some id)) u):∃ar,m id=some ar∧u= .map (some ar):=by
 cases h with
 |mp h=>exact⟨_,h,rfl⟩
theorem b8G(x y:List Nat):strOf x++strOf y=strOf (x++y):=by
 apply ByteArray.ext;rw[ByteArray.data_append];simp[strOf]
theorem T2:∀(x y:List Nat),fS y x=false→fS x y=true∨eqL x y=true
 |[],[],_=>.inr rfl
 |[],_::_,_=>.inl rfl
 |_::_,[],h=>by simp[fS] at h
 |a::x,b::y,h=>by
  have h':cond (Nat.blt b a) true (cond (Nat.beq b a) (fS y x) false)=false:=h;show cond (Nat.blt a b) true (cond (Nat.beq a b) (fS x y) false)=true∨cond (Nat.beq a b) (eqL x y) false=true;have b8H:¬b<a:=fun h1=>by
   have:Nat.blt b a=true:=by simpa [fX] using h1
   simp[this] at h'
  have vV:Nat.blt b a=false:=by
   cases h3:Nat.blt b a
   ·rfl
   ·exact absurd (by simpa [fX] using h3) b8H
  rw[vV] at h';by_cases he:a=b
  ·subst he;simp only[fR,cond_true,cond_false] at h' ⊢;rcases T2 x y h' with h1|h1
   ·left;rw[h1];simp
   ·right;exact h1
  ·left;have:Nat.blt a b=true:=by simp[fX];omega
   rw[this];rfl
theorem T3:∀(x y:List Nat),fS x y=true→fS y x=false∧eqL x y=false
 |[],[],h=>by simp[fS] at h
 |[],_::_,_=>⟨rfl,rfl⟩
 |_::_,[],h=>by simp[fS] at h
 |a::x,b::y,h=>by
  have h':cond (Nat.blt a b) true (cond (Nat.beq a b) (fS x y) false)=true:=h;show cond (Nat.blt b a) true (cond (Nat.beq b a) (fS y x) false)=false∧cond (Nat.beq a b) (eqL x y) false=false;by_cases au:a<b
  ·have h1:Nat.blt b a=false:=by
    cases h3:Nat.blt b a
    ·rfl
    ·have:b<a:=by simpa [fX] using h3
     omega
   have h2:Nat.beq b a=false:=by
    cases h3:Nat.beq b a
    ·rfl
    ·have:=eM h3;omega
   have aN:Nat.beq a b=false:=by
    cases h3:Nat.beq a b
    ·rfl
    ·have:=eM h3;omega
   simp[h1,h2,aN]
  ·have h1:Nat.blt a b=false:=by
    cases h3:Nat.blt a b
    ·rfl
    ·exact absurd (by simpa [fX] using h3) au
   rw[h1] at h';cases h2:Nat.beq a b with
   |false=>rw[h2] at h';simp at h'
   |true=>
    rw[h2] at h';have:=eM h2;subst this;simp only[cond_false,cond_true] at h';obtain⟨h3,aN⟩:=T3 x y h';simp[h1,fR,h3,aN]
theorem T4(a:List Nat):∀(ex:List (List Nat)),oK a ex=true→a∈ex
 |[],h=>by cases h
 |x::ex,h=>by
  have h:cond (eqL a x) true (oK a ex)=true:=h;cases hx:eqL a x with
  |true=>rw[(kU a x).1 hx];exact iq
  |false=>rw[hx] at h;exact e_ _ (T4 a ex h)
theorem EL{ex:List (List Nat)}{a:List Nat}{u:Value}(h:aq w m O B (.fY ex) u)(hm:oK a ex=true):∃s:ByteArray,u= .string s∧s≠strOf a:=by
 cases h with
 |fY h=>exact⟨_,rfl,h a (T4 a ex hm)⟩
theorem T5{a b:ByteArray}(h:a≠b):¬a.toList=b.toList:=fun e=>h (by
 rw[Tk,Tk] at e;cases a;cases b;simp only[ByteArray.mk.injEq];exact ky e)
theorem T6{a b:ByteArray}(h:a≠b):(a==b)=false:=by
 cases hb:a==b with
 |false=>rfl
 |true=>exact absurd ((Tl _ _).1 hb) h
theorem T7{k:IntKind}(ax:k= .u8∨k= .i64){n:Nat}(h:n<256):k.wrap (Int.ofNat n)=Int.ofNat n:=by
 rcases ax with rfl|rfl
 ·have:(Int.ofNat n)%2^8=Int.ofNat n:=JC (vC _) (by show((n:Nat):Int)<2^8;omega);simp only[IntKind.wrap,IntKind.bits,IntKind.signed,this];simp
 ·have:(Int.ofNat n)%2^64=Int.ofNat n:=JC (vC _) (by show((n:Nat):Int)<2^64;omega);have h2:¬(2^63:Int)≤(Int.ofNat n):=by show ¬(2^63:Int)≤((n:Nat):Int);omega
  simp only[IntKind.wrap,IntKind.bits,IntKind.signed,this];simp at h2 ⊢;omega
theorem EM{op:BinOp}{t:TypeId}{x y v:AV}{a b:Value}(ha:aq w m O B x a)(hb:aq w m O B y b)(h:binop op x y=some v)(b8I:∀hi,x≠ .iu hi)(pX:∀bs hi,x≠ .iv bs hi)(so:∀bs hi,y≠ .iv bs hi):
  ∃u,(do eqGuard op t (.tmp 0) (.tmp 0) a b;Go.binOp op t a b:Sem Value).run P w= .ok u w∧aq w m O B v u∧∀fu gu,(do eqGuard op t fu gu a b;Go.binOp op t a b:Sem Value)=(do eqGuard op t (.tmp 0) (.tmp 0) a b;Go.binOp op t a b:Sem Value):=by
 unfold binop at h;split at h
 ·rename_i k n l q;obtain rfl:=ha.kB;obtain rfl:=hb.kB;have hg:∀fu gu,eqGuard op t fu gu (.int k n) (.int l q)=pure ():=fun fu gu=>by unfold eqGuard;cases op<;>rfl
  simp only[hg];refine(fun⟨u,h1,h2⟩=>⟨u,h1,h2,fun _ _=>trivial⟩:(∃u,(do pure ();Go.binOp op t (.int k n) (.int l q):Sem Value).run P w= .ok u w∧aq w m O B v u)→_) ?_;split at h
  ·split at h<;>cases h;rename_i aI;exact⟨_,by simp[Go.binOp,Op.shift,aI],.i _ _⟩
  ·split at h<;>cases h;rename_i aI;exact⟨_,by simp[Go.binOp,Op.shift,aI],.i _ _⟩
  ·rename_i h1 h2;split at h
   ·rename_i tJ;subst tJ;have j0:(n==q)=decide (n=q):=by rw[hD];simp
    have b8J:(n != q)= !decide (n=q):=by rw[hD];simp
    cases op<;>first
     |exact absurd rfl h1
     |exact absurd rfl h2
     |(
       simp only[binI] at h
       first
       |(
         cases h
         first
         |(refine⟨_,?_,aq.i _ _⟩;simp[Go.binOp,Op.intArith,TX];done)
         |(refine⟨_,?_,aq.b _⟩;simp[Go.binOp,Op.intCmp,j0,b8J];done)
         |(refine⟨_,?_,aq.b _⟩;simp only[Go.binOp,Op.intCmp,ne_eq,not_true_eq_false,if_false,er,gX,ez];congr 2;rw[hD];simp;done))
       |(split at h<;>cases h;rename_i aI;refine⟨_,?_,aq.i _ _⟩;simp[Go.binOp,Op.intDiv,aI];done)
       |(unfold Tx at h;dsimp only at h;cases h;refine⟨_,?_,aq.i _ _⟩;simp[Go.binOp,Op.intBits];done))
   ·cases h
 ·rename_i s1 s2;obtain⟨rfl,h1⟩:=ha.nY;obtain⟨rfl,h2⟩:=hb.nY;have hg:∀fu gu,eqGuard op t fu gu (.string (strOf s1)) (.string (strOf s2))=pure ():=fun fu gu=>by unfold eqGuard;cases op<;>rfl
  simp only[hg];refine(fun⟨u,h1,h2⟩=>⟨u,h1,h2,fun _ _=>trivial⟩:(∃u,(do pure ();Go.binOp op t (.string (strOf s1)) (.string (strOf s2)):Sem Value).run P w= .ok u w∧aq w m O B v u)→_) ?_;have aE:=b8F h1 h2;have aY:Op.bytesLess (strOf s1).toList (strOf s2).toList=fS s1 s2:=by rw[xX,xX];exact T1 s1 s2 h1 h2
  have cZ:(fS s1 s2||eqL s1 s2)= !fS s2 s1:=by
   cases h3:fS s2 s1 with
   |true=>
    have:=T3 s2 s1 h3;have bH:eqL s1 s2=false:=by
     cases de:eqL s1 s2 with
     |false=>rfl
     |true=>
      have:=(kU s1 s2).1 de;subst this;exact absurd ((kU s1 s1).2 rfl) (by rw[this.2];simp)
    simp[this.1,bH]
   |false=>rcases T2 s1 s2 h3 with aN|aN<;>simp[aN]
  have lI:(!fS s1 s2&& !eqL s1 s2)=fS s2 s1:=by
   have:=congrArg Bool.not cZ;simpa using this
  cases op<;>simp only[binS] at h<;>first
   |(cases h;done)
   |(
     split at h<;>cases h;rename_i bZ;have d5L:s1.length+s2.length<4611686018427387904:=by simpa [fX] using bZ
     refine⟨_,?_,.s _ (fun c ab=>(e4.1 ab).elim (h1 c) (h2 c))⟩;simp only[Go.binOp,Op.stringOp,tH,er,gX,ez];rw[if_neg (by simp only[IntKind.max,IntKind.signed,IntKind.bits,if_true];omega),b8G];rfl)
   |(cases h;refine⟨_,?_,aq.b _⟩;simp[Go.binOp,Op.stringOp,aE,aY,cZ,lI];done)
 ·-- a byte of Tv is known Ek it leaves
  rename_i nk d j a1 c;split at h<;>try (cases h;done)
  rename_i tJ;subst tJ;cases ha with
  | @hq _ _ _ _ _ _ n hn bu=>
  obtain rfl:=hb.kB;have hg:∀fu gu,eqGuard op t fu gu (.int nk (Int.ofNat n)) (.int nk (Int.ofNat c))=pure ():=fun fu gu=>by unfold eqGuard;cases op<;>rfl
  simp only[hg];refine(fun⟨u,h1,h2⟩=>⟨u,h1,h2,fun _ _=>trivial⟩:(∃u,(do pure ();Go.binOp op t (.int nk (Int.ofNat n)) (.int nk (Int.ofNat c)):Sem Value).run P w= .ok u w∧aq w m O B v u)→_) ?_;unfold umOp at h;cases ab:(Nat.blt 0 c&&(Nat.beq (d%c) 0&&(decide (nk= .u8)||decide (nk= .i64)))) with
  |false=>rw[ab] at h;cases h
  |true=>
   rw[ab,cond_true] at h;simp only[bT,kO,fX,lC,decide_eq_true_eq] at ab;obtain⟨nn,J7,b8K⟩:=ab;obtain⟨e,rfl⟩:=Nat.dvd_of_mod_eq_zero J7;have hc0:(Int.ofNat c)≠0:=by intro h;have:c=0:=pH h;omega
   split at h<;>cases h
   ·refine⟨.int nk (Int.ofNat (n%c)),?_,?_⟩
    ·have aE:(Int.ofNat n).tmod (Int.ofNat c)=Int.ofNat (n%c):=rfl;simp only[Go.binOp,Op.intDiv,ne_eq,not_true_eq_false,if_false,hc0,aE,er,gX,ez]
    ·rw[←hn,Nat.mod_mul_right_mod];exact .i _ _
   ·refine⟨.int nk (Int.ofNat (n/c)),?_,?_⟩
    ·have aE:(Int.ofNat n).tdiv (Int.ofNat c)=Int.ofNat (n/c):=rfl;have h1:n/c<256:=vD (D_ _ _) bu;have aY:nk.wrap (Int.ofNat (n/c))=Int.ofNat (n/c):=T7 b8K h1;simp only[Go.binOp,Op.intDiv,ne_eq,not_true_eq_false,if_false,hc0,aE,aY,er,gX,ez]
    ·refine .hq ?_ (vD (D_ _ _) bu);rw[←hn,Nat.mul_div_cancel_left _ (by omega),Nat.mod_mul_right_div_self]
 ·exact absurd rfl (pX _ _)
 ·exact absurd rfl (so _ _)
 ·exact absurd rfl (b8I _)
 ·rename_i l ex;obtain⟨rfl,h1⟩:=ha.nY;unfold sxEq at h;cases hm:oK l ex with
  |false=>rw[hm] at h;cases h
  |true=>
   obtain⟨s,rfl,bS⟩:=EL hb hm;have hg:∀fu gu,eqGuard op t fu gu (.string (strOf l)) (.string s)=pure ():=fun fu gu=>by unfold eqGuard;cases op<;>rfl
   simp only[hg];refine(fun⟨u,h1,h2⟩=>⟨u,h1,h2,fun _ _=>trivial⟩:(∃u,(do pure ();Go.binOp op t (.string (strOf l)) (.string s):Sem Value).run P w= .ok u w∧aq w m O B v u)→_) ?_;have aE:=T5 (oG bS);rw[hm,cond_true] at h;split at h<;>cases h<;>(refine⟨_,?_,aq.b _⟩;simp[Go.binOp,Op.stringOp,aE];done)
 ·rename_i ex l;obtain⟨rfl,h1⟩:=hb.nY;unfold sxEq at h;cases hm:oK l ex with
  |false=>rw[hm] at h;cases h
  |true=>
   obtain⟨s,rfl,bS⟩:=EL ha hm;have hg:∀fu gu,eqGuard op t fu gu (.string s) (.string (strOf l))=pure ():=fun fu gu=>by unfold eqGuard;cases op<;>rfl
   simp only[hg];refine(fun⟨u,h1,h2⟩=>⟨u,h1,h2,fun _ _=>trivial⟩:(∃u,(do pure ();Go.binOp op t (.string s) (.string (strOf l)):Sem Value).run P w= .ok u w∧aq w m O B v u)→_) ?_;have aE:=T5 bS;rw[hm,cond_true] at h;split at h<;>cases h<;>(refine⟨_,?_,aq.b _⟩;simp[Go.binOp,Op.stringOp,aE];done)
 ·cases h
theorem T8{op:BinOp}{bs hi c k:Nat}{v:AV}(h1:bs≤k)(h2:k≤hi)(h:ivOp op bs hi c=some v):∃bJ,binop op (.i .i64 (Int.ofNat k)) (.i .i64 (Int.ofNat c))=some bJ∧∀ {w:World} {m:Nat→Option Nat} {O:Nat→Prop} {B:Nat} {u:Value},aq w m O B bJ u→aq w m O B v u:=by
 have A5:∀ {c l:Nat},Nat.blt c l=true→c<l:=fun h=>eY h;have T9:∀ {c l:Nat},Nat.ble c l=true→c≤l:=fun h=>eY h;unfold ivOp at h;split at h
 ·cases aI:Nat.blt (hi+c) 4611686018427387904 with
  |false=>rw[aI] at h;cases h
  |true=>
   rw[aI,cond_true] at h;cases h;have:=A5 aI;refine⟨.i .i64 (Int.ofNat (k+c)),?_,fun b9=>?_⟩
   ·show some (AV.i .i64 (wrapN .i64 (Int.ofNat (k+c))))=_;have:Nat.blt (k+c) 9223372036854775808=true:=kg (by omega);show some (AV.i .i64 (cond (Nat.blt (k+c) 9223372036854775808) _ _))=_;rw[this];rfl
   ·cases b9;exact .iv _ (by omega) (by omega)
 ·cases aI:Nat.beq c 0 with
  |false=>rw[aI] at h;cases h
  |true=>
   rw[aI,cond_true] at h;cases h;obtain rfl:=eM aI;refine⟨.i .i64 (Int.ofNat 0),?_,fun h=>h⟩;rfl
 all_goals
  refine⟨v,?_,fun h=>h⟩
 ·show some (AV.b (decide (Int.ofNat c<Int.ofNat k)))=_;rw[←h];cases aI:Nat.ble hi c with
  |true=>have:=T9 aI;rw[cond_true,decide_eq_false (by simp only[vE,Ea];omega)]
  |false=>
   rw[aI,cond_false] at h;cases pY:Nat.blt c bs with
   |true=>have:=A5 pY;rw[cond_false,cond_true,decide_eq_true (by simp only[vE,Ea];omega)]
   |false=>rw[pY] at h;cases h
 ·show some (AV.b (decide (Int.ofNat k≤Int.ofNat c)))=_;rw[←h];cases aI:Nat.ble hi c with
  |true=>have:=T9 aI;rw[cond_true,decide_eq_true (by simp only[vE,Int.ofNat_le];omega)]
  |false=>
   rw[aI,cond_false] at h;cases pY:Nat.blt c bs with
   |true=>have:=A5 pY;rw[cond_false,cond_true,decide_eq_false (by simp only[vE,Int.ofNat_le];omega)]
   |false=>rw[pY] at h;cases h
 ·cases aI:(Nat.blt c bs||Nat.blt hi c) with
  |false=>rw[aI] at h;cases h
  |true=>
   rw[aI,cond_true] at h;cases h;rw[kO] at aI;have bS:k≠c:=by rcases aI with h|h<;>have:=A5 h<;>omega
   show some (AV.b (decide (Int.ofNat k=Int.ofNat c)))=_;rw[decide_eq_false (by intro e;exact bS (pH e))]
 ·cases aI:(Nat.blt c bs||Nat.blt hi c) with
  |false=>rw[aI] at h;cases h
  |true=>
   rw[aI,cond_true] at h;cases h;rw[kO] at aI;have bS:k≠c:=by rcases aI with h|h<;>have:=A5 h<;>omega
   show some (AV.b (!decide (Int.ofNat k=Int.ofNat c)))=_;rw[decide_eq_false (by intro e;exact bS (pH e))];rfl
 ·cases h
theorem ok_bin{op:BinOp}{t:TypeId}{x y v:AV}{a b:Value}(ha:aq w m O B x a)(hb:aq w m O B y b)(h:binop op x y=some v):
  ∃u,(do eqGuard op t (.tmp 0) (.tmp 0) a b;Go.binOp op t a b:Sem Value).run P w= .ok u w∧aq w m O B v u∧∀fu gu,(do eqGuard op t fu gu a b;Go.binOp op t a b:Sem Value)=(do eqGuard op t (.tmp 0) (.tmp 0) a b;Go.binOp op t a b:Sem Value):=by
 by_cases av:∃bs hi,x= .iv bs hi
 ·obtain⟨bs,hi,rfl⟩:=av;cases ha with
  |iv k h1 h2=>
   cases y with
   |i l c=>
    cases l with
    |i64=>
     cases c with
     |ofNat c=>
      obtain⟨bJ,h3,aN⟩:=T8 h1 h2 (h:ivOp op bs hi c=some v);obtain⟨u,bH,de,fV⟩:=EM (P:=P) (t:=t) (.i _ _) hb h3 (fun _ h=>by cases h) (fun _ _ h=>by cases h) (fun _ _ h=>by cases h);exact⟨u,bH,aN de,fV⟩
     |negSucc c=>cases h
    |_=>cases h
   |_=>cases h
 by_cases so:∃bs hi,y= .iv bs hi
 ·obtain⟨bs,hi,rfl⟩:=so;cases hb with
  |iv k h1 h2=>
   cases x with
   |i l c=>
    cases l with
    |i64=>
     cases c with
     |ofNat c=>
      cases op<;>first|(cases h;done)|skip
      replace h:ivOp .add bs hi c=some v:=h;obtain⟨bJ,h3,aN⟩:=T8 h1 h2 h;have J8:binop .add (.i .i64 (Int.ofNat c)) (.i .i64 (Int.ofNat k))=some bJ:=by
       rw[←h3];show some (AV.i .i64 (wrapN .i64 (Int.ofNat c+Int.ofNat k)))=some (AV.i .i64 (wrapN .i64 (Int.ofNat k+Int.ofNat c)));rw[Int.add_comm]
      obtain⟨u,bH,de,fV⟩:=EM (P:=P) (t:=t) ha (.i _ _) J8 (fun _ h=>by cases h) (fun _ _ h=>by cases h) (fun _ _ h=>by cases h);exact⟨u,bH,aN de,fV⟩
     |negSucc c=>cases h
    |_=>cases h
   |_=>cases h
 by_cases hi:∃hi,x= .iu hi
 ·obtain⟨hi,rfl⟩:=hi;cases ha with
  |iu n hn=>
   refine EM (x:=.i .i64 n) (.i _ _) hb ?_ (fun _ h=>by cases h) (fun _ _ h=>by cases h) (fun _ _ h=>so ⟨_,_,h⟩);cases y with
   |i l c=>
    cases c with
    |ofNat c=>
     replace h:(if l= .i64∧c=40 then(match op with| .gtr=>some (AV.b hi)| .leq=>some (.b (!hi))|_=>none) else none)=some v:=h;split at h
     ·rename_i ab;obtain⟨rfl,rfl⟩:=ab;split at h<;>cases h
      ·show(if IntKind.i64=IntKind.i64 then some (AV.b (decide (Int.ofNat 40<n))) else none)=_;rw[if_pos rfl,hn];rfl
      ·show(if IntKind.i64=IntKind.i64 then some (AV.b (decide (n≤Int.ofNat 40))) else none)=_;rw[if_pos rfl,hn]
       congr 2
       by_cases T_:(40:Int)<n
       ·rw[decide_eq_true T_,decide_eq_false (by show ¬n≤40;omega)];rfl
       ·rw[decide_eq_false T_,decide_eq_true (by show n≤40;omega)];rfl
     ·cases h
    |negSucc c=>cases h
   |_=>cases h
 ·exact EM ha hb h (fun h e=>hi ⟨h,e⟩) (fun _ _ h=>av ⟨_,_,h⟩) (fun _ _ h=>so ⟨_,_,h⟩)
theorem b8L(d:Nat){t:TypeId}(ht:P.underlying t=some .bool)(a b:Bool):(Op.equalIn (d+1) t (.bool a) (.bool b)).run P w= .ok (a==b) w:=by
 simp[Op.equalIn,run_underlying ht]
theorem b8M{t:TypeId}(ht:P.underlying t=some .bool){x y:AV}{v:Bool}{a b:Value}(ha:aq w m O B x a)(hb:aq w m O B y b)(h:binopB x y=some v)(fu gu:Operand):
  (do eqGuard .eql t fu gu a b;Go.binOp .eql t a b:Sem Value).run P w= .ok (.bool v) w∧(do eqGuard .neq t fu gu a b;Go.binOp .neq t a b:Sem Value).run P w= .ok (.bool (!v)) w:=by
 unfold binopB at h;split at h<;>cases h;rename_i c d;obtain rfl:=ha.tI;obtain rfl:=hb.tI;have he:(Op.equal t (.bool c) (.bool d)).run P w= .ok (c==d) w:=b8L 9999 ht c d;have h1:Go.binOp .eql t (.bool c) (.bool d)=(do pure (.bool (←Op.equal t (.bool c) (.bool d))):Sem Value):=rfl;have h2:Go.binOp .neq t (.bool c) (.bool d)=(do pure (.bool (!(←Op.equal t (.bool c) (.bool d)))):Sem Value):=rfl;have g1:eqGuard .eql t fu gu (.bool c) (.bool d)=pure ():=rfl;have g2:eqGuard .neq t fu gu (.bool c) (.bool d)=pure ():=rfl;rw[h1,h2,g1,g2];constructor<;>simp[he]
def Ua(P:Program)(t:TypeId)(kind:Nat):Prop:=
 (kind=0∧∃ms,P.underlying t=some (.interface ms))∨(kind=1∧∃e,P.underlying t=some (.pointer e))∨(kind=2∧∃ps rs v,P.underlying t=some (.func ps rs v))∨
 (kind=3∧∃e,P.underlying t=some (.slice e))∨(kind=4∧∃k e,P.underlying t=some (.map k e))
theorem b8N{t:TypeId}{fu gu:Operand}{v:Bool}{A C:Value}(g1:eqGuard .eql t fu gu A C=pure ())(g2:eqGuard .neq t fu gu A C=pure ())(h1:Go.binOp .eql t A C=(do pure (.bool (←Op.equal t A C)):Sem Value))
  (h2:Go.binOp .neq t A C=(do pure (.bool (!(←Op.equal t A C))):Sem Value)) (he:∀d,(Op.equalIn (d+1) t A C).run P w= .ok v w):
  ((do eqGuard .eql t fu gu A C;Go.binOp .eql t A C:Sem Value).run P w= .ok (.bool v) w∧(do eqGuard .neq t fu gu A C;Go.binOp .neq t A C:Sem Value).run P w= .ok (.bool (!v)) w):=by
 have A6:(Op.equal t A C).run P w= .ok v w:=he 9999;rw[h1,h2,g1,g2];constructor<;>simp[A6]
theorem b8O{t:TypeId}{kind:Nat}(ht:Ua P t kind){x y:AV}{v:Bool}{a b:Value}
  (ha:aq w m O B x a) (hb:aq w m O B y b) (h:isNilEq kind x y=some v) (fu gu:Operand):
  (((do eqGuard .eql t fu gu a b;Go.binOp .eql t a b:Sem Value).run P w= .ok (.bool v) w∧(do eqGuard .neq t fu gu a b;Go.binOp .neq t a b:Sem Value).run P w= .ok (.bool (!v)) w)):=by
 unfold isNilEq at h;split at h
 case h_13=>cases h
 case h_12=>
  rcases ht with⟨rfl,_⟩|⟨rfl,_⟩|⟨rfl,_⟩|⟨rfl,_⟩|⟨rfl,_⟩<;>cases h
 all_goals
  cases h<;>cases ha<;>cases hb<;>
  (rcases ht with⟨ax,ms,hu⟩|⟨ax,e,hu⟩|⟨ax,ps,rs,d5M,hu⟩|⟨ax,e,hu⟩|⟨ax,re,e,hu⟩<;>first
   |(cases ax;done)
   |(refine b8N rfl rfl rfl rfl (fun d=>?_);simp[Op.equalIn,run_underlying hu];done))
end
section
variable {P:Program}{w:World}{m:Nat→Option Nat}{O:Nat→Prop}{B:Nat}
theorem J9{t:TypeId}{i off:Nat}{R:Option Nat}(h:fieldOf P t i=some (off,R)):
  ∃fs sq,P.underlying t=some (.struct fs)∧fs[i]? =some sq∧sq.offset=off∧shapeOf P sq.type=some R∧shN R≠0:=by
 unfold fieldOf at h;split at h<;>try (cases h;done)
 rename_i fs hu;split at h<;>try (cases h;done)
 rename_i sq hf;split at h<;>try (cases h;done)
 rename_i fr hs;split at h<;>cases h;rename_i bw;exact⟨fs,sq,hu,hf,rfl,hs,bw⟩
theorem Ub{R:Option Nat}{c:List AV}{v:AV}(h:eA R c=some v)(hf:∀x∈c,conf none x=true):v.cells=c.take (shN R)∧shN R≤c.length:=by
 cases R with
 |none=>
  obtain⟨r,rfl⟩:=EG h;have:=hf v (by simp);refine⟨?_,by simp[shN]⟩;cases v<;>first|rfl|(simp[conf] at this)
 |some n=>
  obtain⟨rfl,hn⟩:=EH h;exact⟨rfl,hn⟩
theorem b8P{R:Option Nat}{c:List AV}{v:AV}(h:eA R c=some v)(hf:∀x∈c,conf none x=true):conf R v=true:=by
 cases R with
 |none=>
  obtain⟨r,rfl⟩:=EG h;exact hf v (by simp)
 |some n=>
  obtain⟨rfl,hn⟩:=EH h;simp[conf];omega
theorem aq.Uc{ol:Bool}{cs:List AV}{u:Value}(h:aq w m O B (.cG ol (.ag cs)) u){R:Option Nat}{k:Nat}{v:AV}(av:eA R (cs.drop k)=some v):
  ∃ar I,u= .pointer (some ⟨ar,I,none⟩)∧aq w m O B (.cG ol v) (.pointer (some ⟨ar,I+k,none⟩)):=by
 cases h with
 | @cG _ _ _ _ _ ar off aZ cY hb fc ab af hf=>
  simp only[AV.cells] at ab af hf;have EN:∀x∈cs.drop k,conf none x=true:=fun x hx=>hf x (mH hx);obtain⟨lJ,hle⟩:=Ub av EN;have hlen:v.cells.length=shN R:=by rw[lJ,l9];omega
  have ax:k+shN R≤cs.length∨shN R=0:=by simp at hle;omega
  refine⟨ar,off,rfl,.cG (fun j=>aZ (k+j)) cY hb fc (fun j aB=>?_) (fun j aB=>?_) (fun x hx=>?_)⟩
  ·rw[Eb];exact ab (k+j) (by omega)
  ·have fK:k+j<cs.length:=by omega
   have e:v.cells[j]=cs[k+j]:=by
    have:v.cells[j]? =cs[k+j]? :=by
     rw[lJ,q0 (by omega),pG]
    rw[cS aB,cS fK] at this;exact xG this
   rw[e];exact af (k+j) fK
  ·rw[lJ] at hx;exact EN x (sa hx)
theorem Ud{t:TypeId}{i off:Nat}{R:Option Nat}(h:fieldOf P t i=some (off,R))(b I:Nat):
  (Instr.fieldAt t (.pointer (some ⟨b,I,none⟩)) i).run P w= .ok (.pointer (some ⟨b,I+off,none⟩)) w:=by
 obtain⟨fs,sq,hu,hf,rfl,hs,bw⟩:=J9 h;obtain⟨_,bZ,_⟩:=jI hs w;simp[Instr.fieldAt,run_underlying hu,hf,Instr.sureAddr,fieldPlace,bZ,bw,iz]
theorem b8Q{t:TypeId}{i off:Nat}{R:Option Nat}(h:fieldOf P t i=some (off,R)){x v:AV}{u:Value}(hx:aq w m O B x u)
  (av:fieldAddrA off R x=some v):∃bL,(Instr.fieldAt t u i).run P w= .ok bL w∧aq w m O B v bL:=by
 unfold fieldAddrA at av;split at av<;>try (cases av;done)
 ·rename_i hx;cases av;obtain⟨ar,hm,rfl⟩:=hx.sn;exact⟨_,Ud h _ _,.p hm⟩
 ·rename_i hx;split at av<;>cases av;rename_i bJ ht;obtain⟨ar,I,rfl,af⟩:=hx.Uc ht;exact⟨_,Ud h _ _,af⟩
theorem Ue{t:TypeId}{R:Option Nat}(hs:shapeOf P t=some R){cs:List AV}{arr:Array Value}(ab:bm w m O B cs arr.toList)(hf:∀x∈cs,conf none x=true){off:Nat}{v:AV}(av:eA R (cs.drop off)=some v):
  ∃bL,(part t arr off).run P w= .ok bL w∧aq w m O B v bL:=by
 obtain⟨h1,h2,_⟩:=jI hs w;have an:=ab.drop off;cases R with
 |none=>
  obtain⟨r,af⟩:=EG av;rw[af] at an;obtain⟨u,hu,hE⟩:=an.get (i:=0) (v:=v) rfl;rw[pG] at hu;have rf:arr[off]? =some u:=by simpa using hu
  exact⟨u,by simp[part,h1,rf],hE⟩
 |some n=>
  obtain⟨rfl,hn⟩:=EH av;have e:(arr.extract off (off+n))=((arr.toList.drop off).take n).toArray:=by
   apply ky;simp
  exact⟨.agg (arr.extract off (off+n)),by simp[part,h1,h2,shN],by rw[e];exact aq.vR (an.take n) (fun x hx=>hf x (mH (sa hx)))⟩
theorem b8R{t:TypeId}{i off:Nat}{R:Option Nat}(h:fieldOf P t i=some (off,R)){cs:List AV}{v:AV}{u:Value}(hx:aq w m O B (.ag cs) u)(av:eA R (cs.drop off)=some v):
  ∃bL,(Instr.field t u i).run P w= .ok bL w∧aq w m O B v bL:=by
 obtain⟨fs,sq,hu,hf,rfl,hs,bw⟩:=J9 h;obtain⟨aX,rfl,au,mJ⟩:=hx.oP;obtain⟨bL,h1,h2⟩:=Ue (w:=w) hs au mJ av;exact⟨bL,by simp[Instr.field,run_underlying hu,hf,asAgg,h1],h2⟩
theorem b8S{t e:TypeId}{n:Nat}{R:Option Nat}(hu:P.underlying t=some (.array n e))(hs:shapeOf P e=some R){x v:AV}{u:Value}(hx:aq w m O B x u){k:IntKind}{j:Nat}(aB:j<n)
  (av:fieldAddrA (j*shN R) R x=some v):∃bL,(Instr.indexAt t u (.int k (Int.ofNat j))).run P w= .ok bL w∧aq w m O B v bL:=by
 unfold fieldAddrA at av;obtain⟨_,bZ,_⟩:=jI hs w;have key:∀b I,(Instr.indexAt t (.pointer (some ⟨b,I,none⟩)) (.int k (Int.ofNat j))).run P w= .ok (.pointer (some ⟨b,I+j*shN R,none⟩)) w:=fun b I=>by
  simp[Instr.indexAt,asIntOf,run_underlying hu,Instr.sureAddr,bZ,iz,aB]
 split at av<;>try (cases av;done)
 ·rename_i hx;cases av;obtain⟨ar,hm,rfl⟩:=hx.sn;exact⟨_,key _ _,.p hm⟩
 ·rename_i hx;split at av<;>cases av;rename_i bJ ht;obtain⟨ar,I,rfl,af⟩:=hx.Uc ht;exact⟨_,key _ _,af⟩
theorem b8T{t e:TypeId}{hO:Option Nat}(hu:P.underlying t=some (.slice e))(hs:shapeOf P e=some hO){x v:AV}{u:Value}(hx:aq w m O B x u){k:IntKind}{j:Nat}
  (av:idxSlA hO x j=some v):∃bL,(Instr.indexAt t u (.int k (Int.ofNat j))).run P w= .ok bL w∧aq w m O B v bL:=by
 unfold idxSlA at av;obtain⟨_,bZ,_⟩:=jI hs w;have key:∀b I len cap,j<len→(Instr.indexAt t (.slice (some ⟨b,I,none⟩) len cap) (.int k (Int.ofNat j))).run P w= .ok (.pointer (some ⟨b,I+j*shN hO,none⟩)) w:=fun b I len cap aB=>by
  simp[Instr.indexAt,asIntOf,run_underlying hu,bZ,iz,aB]
 split at av<;>try (cases av;done)
 ·rename_i hx;split at av<;>cases av;rename_i ff;simp only[bT,decide_eq_true_eq] at ff;obtain⟨bu,rfl⟩:=ff;have b8U:=by simpa [fX] using bu
  cases hx with
  |al h au ab hn h6=>exact⟨_,key _ _ _ _ b8U,.p h⟩
 ·rename_i hx;split at av<;>try (cases av;done)
  rename_i he;subst he;split at av<;>cases av;rename_i bJ Uf;rw[Ey] at Uf;obtain⟨aB,rfl⟩:=mG.1 Uf;cases hx with
  |kR=>simp at aB
  | @aD _ _ _ _ _ _ ar off dR sp aZ cY np ab af au hf dS=>
   have bS:∀ {l:List AV},j<l.length→l≠[]:=fun h e=>by subst e;simp at h
   obtain rfl:=dS (bS aB);obtain⟨h1,h2,h3⟩:=cY (bS aB);exact⟨_,key _ _ _ _ aB,.cG (aZ j) h1 h2 h3 (fun i hi=>ab j aB i hi) (fun i hi=>af j aB i hi) (hf _ (cB aB))⟩
theorem b8V{t:TypeId}(hu:P.underlying t=some .string){l:List Nat}{u:Value}(hx:aq w m O B (.s l) u){k:IntKind}{j c:Nat}(aB:nth l j=some c):
  (Instr.index t u (.int k (Int.ofNat j))).run P w= .ok (.int .u8 (Int.ofNat c)) w:=by
 obtain⟨rfl,au⟩:=hx.nY;rw[Ey] at aB;obtain⟨bu,dd⟩:=mG.1 aB;have ab:c<256:=au c (by rw[←dd];exact cB bu);have hs:(strOf l)[j]? =some c.toUInt8:=by
  have h1:j<(strOf l).size:=by rw[tH];exact bu
  rw[getElem?_pos (strOf l) j h1]
  congr 1
  show(strOf l).data[j]=_;simp[strOf,dd]
 simp only[Instr.index,asIntOf,er,gX,ez,run_underlying hu];have:(0:Int)≤Int.ofNat j:=vC j;simp[hs];omega
theorem b8W{t e:TypeId}{n:Nat}{R:Option Nat}(hu:P.underlying t=some (.array n e))(hs:shapeOf P e=some R){cs:List AV}{v:AV}{u:Value}(hx:aq w m O B (.ag cs) u){k:IntKind}{j:Nat}(aB:j<n)
  (av:eA R (cs.drop (j*shN R))=some v):∃bL,(Instr.index t u (.int k (Int.ofNat j))).run P w= .ok bL w∧aq w m O B v bL:=by
 obtain⟨_,bZ,_⟩:=jI hs w;obtain⟨aX,rfl,au,mJ⟩:=hx.oP;obtain⟨bL,h1,h2⟩:=Ue (w:=w) hs au mJ av;exact⟨bL,by simp[Instr.index,asIntOf,run_underlying hu,bZ,aB,h1],h2⟩
theorem b8X{l:List AV}{u:Value}(hx:aq w m O B (.aK l) u){i:Nat}{v:AV}(av:nth l i=some v):∃bL,(Instr.extract u i).run P w= .ok bL w∧aq w m O B v bL:=by
 obtain⟨aX,rfl,au⟩:=hx.J2;rw[Ey] at av;obtain⟨bL,h1,h2⟩:=au.get av;have tK:aX[i]? =some bL:=by simpa using h1
 exact⟨bL,by simp[Instr.extract,tK],h2⟩
end
section
variable {P:Program}{w:World}{m:Nat→Option Nat}{O:Nat→Prop}{B:Nat}
theorem run_sliceBound{k:IntKind}{n y:Nat}{code:BoundsCode}(h:n≤y):(Instr.sliceBound (.int k (Int.ofNat n)) y code).run P w= .ok n w:=by
 have:((Int.ofNat n)≤(y:Int)):=by show((n:Nat):Int)≤y;omega
 simp[Instr.sliceBound,asIntOf,h]
theorem Ug{k:IntKind}{n y:Nat}{code:BoundsCode}(h:n≤y):(Instr.sliceBound (.int k (n:Int)) y code).run P w= .ok n w:=run_sliceBound h
inductive jr(d:Nat):Option Value→Nat→Prop
 |none:jr d none d
 |some (k:IntKind) (n:Nat):jr d (some (.int k (Int.ofNat n))) n
theorem b8Y{env:Env}(cY:∀b,O b→B≤b)(eS:Globs env w B){al:aP AV}{a:Act}(hs:iw w m O B al a.tmps.toList){x:Option Operand}{bq:Option az}(hx:opdO x=some bq){d n:Nat}(av:bndO (evalA env al) bq d=some n):jr d (x.map a.eval) n:=by
 cases x with
 |none=>
  cases hx;simp only[bndO,ca] at av;subst av;exact .none
 |some x=>
  simp only[opdO] at hx;split at hx<;>cases hx;rename_i fu ga;simp only[bndO] at av;split at av<;>try (cases av;done)
  rename_i v he;obtain⟨k,rfl⟩:=A4 av;have:=(J5 cY eS hs ga he).kB;simp only[AP,this];exact .some k n
theorem pZ{isSlice:Bool}{len cap:Nat}{bs hi:Option Value}{l h:Nat}(au:jr 0 bs l)(hh:jr len hi h)(h1:l≤h)(h2:h≤cap):
  (Instr.sliceBounds isSlice len cap bs hi none).run P w= .ok (l,h,cap) w:=by
 cases au<;>cases hh<;>simp[Instr.sliceBounds,Ug,h1,h2]
theorem J_{isSlice:Bool}{len cap:Nat}{bs:Option Value}{l h k:Nat}{rh oQ:IntKind}(au:jr 0 bs l)(h1:l≤h)(h2:h≤k)(h3:k≤cap):
  (Instr.sliceBounds isSlice len cap bs (some (.int rh (Int.ofNat h))) (some (.int oQ (Int.ofNat k)))).run P w= .ok (l,h,k) w:=by
 cases au<;>simp[Instr.sliceBounds,Ug,h1,h2,h3]
theorem b8Z(s:List Nat)(l h:Nat):(strOf s).extract l h=strOf ((s.drop l).take (h-l)):=by
 apply ByteArray.ext;rw[ByteArray.data_extract];apply ky;simp[strOf,List.map_take,List.map_drop]
theorem b9a{t:TypeId}(hu:P.underlying t=some .string){s:List Nat}{u:Value}(hx:aq w m O B (.s s) u){bs hi:Option Value}{l h:Nat}(au:jr 0 bs l)(hh:jr s.length hi h)(h1:l≤h)(h2:h≤s.length):
  ∃bL,(Instr.sliceAt t u bs hi none).run P w= .ok bL w∧aq w m O B (.s ((s.drop l).take (h-l))) bL:=by
 obtain⟨rfl,hb⟩:=hx.nY;refine⟨_,?_,.s _ (fun c ab=>hb c (mH (sa ab)))⟩;simp[Instr.sliceAt,Instr.slice,run_underlying hu,tH,pZ au hh h1 h2,b8Z]
theorem b9b{t e:TypeId}{n:Nat}{R:Option Nat}(hu:P.underlying t=some (.array n e))(hs:shapeOf P e=some R){id off ar k:Nat}(hm:m id=some ar)(ax:bsz w ar=some k)(xY:off+n*shN R≤k)
  {bs hi:Option Value} {l h:Nat} (au:jr 0 bs l) (hh:jr n hi h) (h1:l≤h) (h2:h≤n):
  ∃bL,(Instr.sliceAt t (.pointer (some ⟨ar,off,none⟩)) bs hi none).run P w= .ok bL w∧aq w m O B (.al id (if n=l then off else off+l*shN R) (h-l) R (some (n-l))) bL:=by
 obtain⟨_,bZ,_⟩:=jI hs w;refine⟨.slice (some ⟨ar,if n=l then off else off+l*shN R,none⟩) (h-l) (n-l),?_,.al hm (by omega) (fun c ab=>by cases ab;rfl) ax ?_ (fun h=>by cases h)⟩
 ·simp only[Instr.sliceAt,run_underlying hu,er,ez,Instr.sureAddr,gX,pZ au hh h1 h2,bZ];split<;>simp[iz]
 ·split
  ·rename_i e;subst e;simp;omega
  ·have:(n-l)*shN R+l*shN R=n*shN R:=by rw[←jV];congr 1;omega
   omega
theorem b9c{t e:TypeId}{hO:Option Nat}(hu:P.underlying t=some (.slice e))(hs:shapeOf P e=some hO){id off len:Nat}{R cap:Option Nat}(f_:R=hO){u:Value}(hx:aq w m O B (.al id off len R cap) u)
  {bs hi:Option Value} {l h:Nat} (au:jr 0 bs l) (hh:jr len hi h) (h1:l≤h):
  (∀(da:Option Value) (oQ:IntKind) (k:Nat),da=some (.int oQ (Int.ofNat k))→hi.isSome=true→h≤k→k≤(cap.getD len)→
   ∃bL,(Instr.sliceAt t u bs hi da).run P w= .ok bL w∧aq w m O B (.al id (if k=l then off else off+l*shN R) (h-l) R (some (k-l))) bL)∧
  (∀c,cap=some c→h≤c→∃bL,(Instr.sliceAt t u bs hi none).run P w= .ok bL w∧aq w m O B (.al id (if c=l then off else off+l*shN R) (h-l) R (some (c-l))) bL)∧
  (cap=none→h≤len→l=0→∃bL,(Instr.sliceAt t u bs hi none).run P w= .ok bL w∧aq w m O B (.al id off h R none) bL)∧
  (cap=none→h≤len→l<len→∃bL,(Instr.sliceAt t u bs hi none).run P w= .ok bL w∧aq w m O B (.al id (off+l*shN R) (h-l) R none) bL)∧
  (cap=none→l=len→h=len→∃bL,(Instr.sliceAt t u bs hi none).run P w= .ok bL w∧aq w m O B (.aD true R []) bL):=by
 subst f_;obtain⟨_,bZ,_⟩:=jI hs w;cases hx with
 | @al _ _ _ _ _ _ ar n dR _ _ hm hlen ab hn h6 eF=>
  have EO:∀k,l≤k→(k-l)*shN R+l*shN R=k*shN R:=fun k ax=>by rw[←jV];congr 1;omega
  have b9d:∀k,k≤dR→k*shN R≤dR*shN R:=fun k ax=>pI _ ax;refine⟨?_,?_,?_,?_,?_⟩
  ·rintro da oQ k rfl kV ld oR;have Uh:k≤dR:=by
    cases cap with
    |none=>simp at oR;omega
    |some c=>have:=ab c rfl;simp at oR;omega
   cases hh with
   |none=>simp at kV
   |some rh h=>
    refine⟨.slice (some ⟨ar,if k=l then off else off+l*shN R,none⟩) (h-l) (k-l),?_,.al hm (by omega) (fun c ab=>by cases ab;rfl) hn ?_ (fun h=>by cases h)⟩
    ·simp only[Instr.sliceAt,Instr.slice,run_underlying hu,er,ez,J_ au h1 ld Uh,bZ,gX];split<;>simp[iz]
    ·have:=b9d k Uh;split
     ·rename_i e;subst e;simp;omega
     ·have:=EO k (by omega);omega
  ·rintro c rfl J7;obtain rfl:=ab c rfl;refine⟨.slice (some ⟨ar,if dR=l then off else off+l*shN R,none⟩) (h-l) (dR-l),?_,.al hm (by omega) (fun c ab=>by cases ab;rfl) hn ?_ (fun h=>by cases h)⟩
   ·simp only[Instr.sliceAt,Instr.slice,run_underlying hu,er,ez,pZ au hh h1 J7,bZ,gX];split<;>simp[iz]
   ·split
    ·rename_i e;subst e;simp;omega
    ·have:=EO dR (by omega);omega
  ·rintro rfl hle rfl;refine⟨.slice (some ⟨ar,off,none⟩) h dR,?_,.al hm (by omega) (fun c ab=>by cases ab) hn h6 eF⟩;simp only[Instr.sliceAt,Instr.slice,run_underlying hu,er,ez,pZ au hh h1 (jk hle hlen),bZ,gX];split<;>simp[iz]
  ·rintro rfl hle bu;refine⟨.slice (some ⟨ar,off+l*shN R,none⟩) (h-l) (dR-l),?_,.al hm (by omega) (fun c ab=>by cases ab) hn ?_ (fun _=>by have:=EO dR (by omega);have:=eF rfl;omega)⟩
   ·simp only[Instr.sliceAt,Instr.slice,run_underlying hu,er,ez,pZ au hh h1 (jk hle hlen),bZ,gX];rw[if_neg (by omega)];simp[iz]
   ·have:=EO dR (by omega);omega
  ·rintro rfl hF A7;refine⟨.slice (some ⟨ar,if dR=l then off else off+l*shN R,none⟩) (h-l) (dR-l),?_,?_⟩
   ·simp only[Instr.sliceAt,Instr.slice,run_underlying hu,er,ez,pZ au hh h1 (show h≤dR by omega),bZ,gX];split<;>simp[iz]
   ·rw[show h-l=([]:List AV).length from by rw[hF,A7];simp];exact .aD (fun _ _=>.bool true) (fun h=>absurd rfl h) (fun i h=>by simp at h) (fun i h=>by simp at h) (fun i h=>by simp at h) (ir _) (fun v av=>by simp at av) (fun h=>absurd rfl h)
theorem b9e{t e:TypeId}{hO:Option Nat}(hu:P.underlying t=some (.slice e))(hs:shapeOf P e=some hO){id off len k:Nat}{R:Option Nat}(f_:R=hO){u:Value}(hx:aq w m O B (.al id off len R none) u)
  {bs hi:Option Value} (au:jr 0 bs 0) (hh:jr len hi k) (h0:0<shN R) (h1:len≤k) (h2:∀ar n,m id=some ar→bsz w ar=some n→off+k*shN R≤n):
  ∃bL,(Instr.sliceAt t u bs hi none).run P w= .ok bL w∧aq w m O B (.al id off k R none) bL:=by
 subst f_;obtain⟨_,bZ,_⟩:=jI hs w;cases hx with
 | @al _ _ _ _ _ _ ar n dR _ _ hm hlen ab hn h6 eF=>
  have hle:k≤dR:=by
   have h3:=h2 _ _ hm hn;have aN:=eF rfl;rcases mF dR k with h|h
   ·have:=Nat.mul_lt_mul_of_pos_right h h0;omega
   ·exact h
  refine⟨.slice (some ⟨ar,off,none⟩) k dR,?_,.al hm hle (fun c ab=>by cases ab) hn h6 eF⟩;simp only[Instr.sliceAt,Instr.slice,run_underlying hu,er,ez,pZ au hh (ir _) hle,bZ,gX];split<;>simp[iz]
theorem b9f{t e:TypeId}{hO:Option Nat}(hu:P.underlying t=some (.slice e))(hs:shapeOf P e=some hO){bs hi da:Option Value}(au:jr 0 bs 0)(hh:jr 0 hi 0)(hm:jr 0 da 0)(kV:da.isSome=true→hi.isSome=true):
  (Instr.sliceAt t (.slice none 0 0) bs hi da).run P w= .ok (.slice none 0 0) w:=by
 obtain⟨_,bZ,_⟩:=jI hs w;cases hm with
 |none=>simp[Instr.sliceAt,Instr.slice,run_underlying hu,pZ au hh,bZ]
 |some oQ=>
  cases hh with
  |none=>simp at kV
  |some rh=>
   have:=J_ (P:=P) (w:=w) (isSlice:=true) (len:=0) (cap:=0) (rh:=rh) (oQ:=oQ) au (bK 0) (bK 0) (bK 0);simp only[Instr.sliceAt,Instr.slice,run_underlying hu,er,ez,this,bZ,gX];simp
theorem b9g{I:Oper}{x:Operand}(aj:I.op= .nilCheck x){cD:Operand→Value}{v:AV}(hx:aq w m O B v (cD x))(h:nilOk v=true):(execOp cD I).run P w= .ok (.value (cD x)) w:=by
 generalize hu:cD x=u at hx;cases hx<;>simp[nilOk] at h<;>simp[execOp,aj,hu]
theorem b9h{b:Bool}{u:Value}(hx:aq w m O B (.b b) u):(Op.unary .not u).run P w= .ok (.bool (!b)) w:=by
 obtain rfl:=hx.tI;rfl
theorem b9i{k:IntKind}{n:Int}{u:Value}(hx:aq w m O B (.i k n) u):(Op.unary .neg u).run P w= .ok (.int k (k.wrap (0-n))) w:=by
 obtain rfl:=hx.kB;rfl
theorem b9j{s d:TypeId}{k gZ:IntKind}(hs:P.underlying s=some (.int gZ))(an:P.underlying d=some (.int k)){j:IntKind}{n:Int}{u:Value}(hx:aq w m O B (.i j n) u):(convert s d u).run P w= .ok (.int k (wrapN k n)) w:=by
 obtain rfl:=hx.kB;simp[convert,run_underlying hs,run_underlying an,Conv.intToInt,TX]
theorem b9k{s d:TypeId}{gZ nZ:IntKind}(hs:P.underlying s=some (.int gZ))(an:P.underlying d=some (.int .i64)){q j:Nat}{u:Value}(hx:aq w m O B (.hq nZ q j) u):∃n,(convert s d u).run P w= .ok (.int .i64 (Int.ofNat n)) w∧aq w m O B (.hq .i64 q j) (.int .i64 (Int.ofNat n)):=by
 cases hx with
 | @hq _ _ _ _ _ _ n hn bu=>
 exact⟨n,by simp only[convert,er,run_underlying hs,run_underlying an,ez,Conv.intToInt];rw[T7 (.inr rfl) bu];rfl,.hq hn bu⟩
theorem b9l{t:TypeId}{d:TypeDesc}(hu:P.underlying t=some d)(an:∀ms,d≠ .interface ms)(u:Value):(Instr.makeInterface t u).run P w= .ok (.iface t u) w:=by
 simp only[Instr.makeInterface,er,run_underlying hu,ez];cases d<;>first|rfl|exact absurd rfl (an _)
theorem b9m{t Ka:TypeId}{d:TypeDesc}(hu:P.underlying t=some d)(an:∀ms,d≠ .interface ms){z:AV}(bw:zeroOf P t=some z){two:Bool}{x:AV}{u:Value}(hx:aq w m O B x u){v:AV}
  (av:assertA x t z two=some v):∃bL,(Instr.typeAssert u Ka t two).run P w= .ok bL w∧aq w m O B v bL:=by
 unfold assertA at av;obtain⟨ej,hP,lK,_⟩:=pW bw w;have lL:=lK w m O B;have vW:∀ {a:AV} {b:Value} (c:Bool),aq w m O B a b→aq w m O B (.aK [a,.b c]) (.tuple #[b,.bool c]):=fun c h=>aq.sm (bm.cons h (bm.cons (.b c) bm.nil));split at av<;>try (cases av;done)
 ·rename_i xZ bJ hx;cases hx with
  | @it _ _ _ _ _ bL af=>
   split at av
   ·rename_i he;subst he;cases av;cases two with
    |false=>exact⟨bL,by simp only[Instr.typeAssert,er,run_underlying hu,ez];cases d<;>first|exact absurd rfl (an _)|simp,af⟩
    |true=>exact⟨.tuple #[bL,.bool true],by simp only[Instr.typeAssert,er,run_underlying hu,ez];cases d<;>first|exact absurd rfl (an _)|simp,vW true af⟩
   ·rename_i he;cases two with
    |false=>cases av
    |true=>
     cases av;exact⟨.tuple #[ej,.bool false],by simp only[Instr.typeAssert,er,run_underlying hu,ez];cases d<;>first|exact absurd rfl (an _)|simp[he,hP],vW false lL⟩
 ·rename_i hx;cases hx;cases two with
  |false=>cases av
  |true=>
   cases av;exact⟨.tuple #[ej,.bool false],by simp only[Instr.typeAssert,er,run_underlying hu,ez];cases d<;>first|exact absurd rfl (an _)|simp[hP],vW false lL⟩
end
def iA{α β:Type}(r:α→β→Prop):List α→List β→Prop
 |[],[]=>True
 |x::xs,y::aZ=>r x y∧iA r xs aZ
 |_,_=>False
theorem A8{α β Ui:Type}{f:α→Option β}{g:α→Ui}{r:β→Ui→Prop}(h:∀x y,f x=some y→r y (g x)):∀ {l:List α} {aZ:List β},mapOL f l=some aZ→iA r aZ (l.map g)
 |[],aZ,aJ=>by simp[mapOL] at aJ;subst aJ;trivial
 |x::xs,aZ,aJ=>by
  rw[mapOL] at aJ;split at aJ
  ·rename_i y jG hx dC;cases aJ;exact⟨h x y hx,A8 h dC⟩
  ·cases aJ
section
variable {P:Program}{w:World}{m:Nat→Option Nat}{O:Nat→Prop}{B:Nat}
theorem bm.store{c bR v:List AV}{off:Nat}{arr:Array Value}{us:List Value}(ab:bm w m O B c arr.toList)(av:bm w m O B v us)(h:storeCells c off v=some bR):bm w m O B bR (wr arr off us).toList:=by
 obtain⟨hle,rfl⟩:=vT h;have me:arr.size=c.length:=by have:=ab.1;simpa using this
 have hlen:=av.1;have e:(wr arr off us).toList=arr.toList.take off++(us++arr.toList.drop (off+us.length)):=by
  apply List.ext_getElem?;intro i;have:=xV us arr off i (by omega);rw[lB,this];rw[vB];simp only[l9,qZ];by_cases bH:i<off
  ·rw[if_neg (by omega),if_pos (by omega),q0 bH];simp
  ·rw[if_neg (show ¬i<min off arr.size by omega),vB];by_cases de:i-min off arr.size<us.length
   ·rw[if_pos de,if_pos (by omega),show min off arr.size=off by omega]
   ·rw[if_neg de,if_neg (by omega),pG];rw[lB];congr 1;omega
 rw[e,hlen];exact(ab.take off).append (av.append (ab.drop _))
theorem b9n{c bR v:List AV}{off:Nat}(ab:∀x∈c,conf none x=true)(av:∀x∈v,conf none x=true)(h:storeCells c off v=some bR):∀x∈bR,conf none x=true:=by
 obtain⟨_,rfl⟩:=vT h;intro x hx;rcases e4.1 hx with hx|hx
 ·exact ab x (sa hx)
 ·rcases e4.1 hx with hx|hx
  ·exact av x hx
  ·exact ab x (mH hx)
theorem b9o{c bR v:List AV}{off:Nat}(h:storeCells c off v=some bR):bR.length=c.length:=by
 obtain⟨_,rfl⟩:=vT h;simp;omega
theorem Uj:∀(l:List Value) (k off:Nat) (cs:Array Value),(l.zipIdx k).foldl (fun(cs:Array Value) (p:Value×Nat)=>cs.setIfInBounds (off+p.2) p.1) cs=wr cs (off+k) l
 |[],_,_,_=>rfl
 |v::r,k,off,cs=>by
  rw[List.zipIdx_cons,JE,Uj r (k+1) off,wr];rfl
theorem Kb{v:AV}{u:Value}(h:aq w m O B v u)(av:v.val=true):∀x∈v.cells,conf none x=true:=by
 cases h with
 |ag hs af hf=>exact hf
 |aK hs af=>simp[AV.val] at av
 |_=>intro x hx;simp only[AV.cells,e3] at hx;subst hx;rfl
theorem b9p(aw:az→Option AV)(fl:Nat→Nat→Nat)(c:List AV):jW aw fl [] c=some c:=rfl
theorem layParts_cons(aw:az→Option AV)(fl:Nat→Nat→Nat)(p:Nat×Nat×az)(ps:List (Nat×Nat×az))(c:List AV):
  jW aw fl (p::ps) c=match aw p.2.2 with
   |none=>none
   |some v=>cond (Nat.beq v.cells.length p.2.1&&v.val) (match storeCells c (fl p.1 p.2.1) v.cells with|none=>none|some c=>jW aw fl ps c) none:=rfl
theorem A9{place:Nat→Option (Nat×Nat)}{aw:az→Option AV}{fl:Nat→Nat→Nat}:∀(ps:List (Nat×Nat×az)) (h8:List (Nat×Value)) (c bR:List AV) (arr:Array Value),
  iA (fun(p:Nat×Nat×az) (q:Nat×Value)=>place q.1=some (fl p.1 p.2.1,p.2.1)∧∀v,aw p.2.2=some v→aq w m O B v q.2) ps h8→bm w m O B c arr.toList→(∀x∈c,conf none x=true)→jW aw fl ps c=some bR→
  ∃j1,Instr.fill place arr h8=some j1∧bm w m O B bR j1.toList∧(∀x∈bR,conf none x=true)∧bR.length=c.length
 |[],[],c,bR,arr,_,ab,hf,h=>by
  rw[b9p] at h;cases h;exact⟨arr,rfl,ab,hf,rfl⟩
 |[],_::_,_,_,_,h,_,_,_=>h.elim
 |_::_,[],_,_,_,h,_,_,_=>h.elim
 |p::ps,q::h8,c,bR,arr,⟨⟨hp,av⟩,af⟩,ab,hf,h=>by
  rw[layParts_cons] at h;cases he:aw p.2.2 with
  |none=>simp[he] at h
  |some v=>
   simp only[he] at h;cases hb:(Nat.beq v.cells.length p.2.1&&v.val) with
   |false=>simp[hb] at h
   |true=>
    rw[hb,cond_true] at h;simp only[bT] at hb;have hlen:=eM hb.1;have b9:=av v he;cases df:storeCells c (fl p.1 p.2.1) v.cells with
    |none=>simp[df] at h
    |some bY=>
     simp only[df] at h;have bZ:q.2.cells.size=p.2.1:=by have:=b9.cells.1;simp at this;omega
     have Uk:=(vT df).1;have me:arr.size=c.length:=by have:=ab.1;simpa using this
     obtain⟨j1,h1,h2,h3,aN⟩:=A9 ps h8 bY bR (wr arr (fl p.1 p.2.1) q.2.cells.toList) af (ab.store b9.cells df) (b9n hf (Kb b9 hb.2) df) h;refine⟨j1,?_,h2,h3,by rw[aN,b9o df]⟩;obtain⟨i,u⟩:=q;simp only[Instr.fill];rw[show place i=some (fl p.1 p.2.1,p.2.1) from hp];simp only at bZ ⊢;have ff:(u.cells.size≠p.2.1||decide (fl p.1 p.2.1+u.cells.size > arr.size))=false:=by
      simp[bZ];omega
     have Ul:(u.cells.zipIdx.foldl (fun(cs:Array Value) (x:Value×Nat)=>cs.setIfInBounds (fl p.1 p.2.1+x.2) x.1) arr)=wr arr (fl p.1 p.2.1) u.cells.toList:=by
      rw[←Array.foldl_toList,Array.toList_zipIdx,Uj];rfl
     have b9q:¬((u.cells.size≠p.2.1||fl p.1 p.2.1+u.cells.size > arr.size)=true):=by rw[kO];simp[bZ];omega
     rw[if_neg b9q]
     first|(rw[Ul];exact h1)|(simp only[Ul];exact h1)
theorem b9r{fs:Array Field}(h:∀f∈fs.toList,∃i,P.info? f.type=some i)(w:World):
  ∃ps:Array (Nat×Nat),(fs.mapM fun f=>(do pure (f.offset,← sizeOf f.type):Sem (Nat×Nat))).run P w= .ok ps w∧∀(i:Nat) (f:Field) (inf:TypeInfo),fs[i]? =some f→P.info? f.type=some inf→ps[i]? =some (f.offset,inf.size):=by
 have key:∀(l:List Field),(∀f∈l,∃i,P.info? f.type=some i)→∃ps:List (Nat×Nat),(l.mapM fun f=>(do pure (f.offset,← sizeOf f.type):Sem (Nat×Nat))).run P w= .ok ps w∧∀(i:Nat) (f:Field) (inf:TypeInfo),l[i]? =some f→P.info? f.type=some inf→ps[i]? =some (f.offset,inf.size):=by
  intro l
  induction l with
  |nil=>intro _;exact⟨[],by simp,fun i f inf h=>by simp at h⟩
  |cons f l ay=>
   intro h;obtain⟨i,hi⟩:=h f (by simp);obtain⟨ps,h1,h2⟩:=ay (fun g hg=>h g (by simp[hg]));have bZ:(sizeOf f.type).run P w= .ok i.size w:=by simp[sizeOf,typeInfo,hi]
   refine⟨(f.offset,i.size)::ps,by simp only[List.mapM_cons,er,bZ,ez,gX,h1],fun k g inf hg vX=>?_⟩;cases k with
   |zero=>simp at hg;subst hg;rw[hi] at vX;cases vX;rfl
   |succ k=>simp at hg ⊢;exact h2 k g inf hg vX
 obtain⟨ps,h1,h2⟩:=key fs.toList h;refine⟨ps.toArray,?_,fun i f inf hf vX=>by simpa using h2 i f inf (by simpa using hf) vX⟩;rw[Tn];simp only[Sem.run_map,h1,ez]
theorem b9s{t:TypeId}{fs:Array Field}(hu:P.underlying t=some (.struct fs))(hi:fs.any (fun f=>(P.info? f.type).isNone)=false){z:List AV}(bw:zeroOf P t=some (.ag z)){aw:az→Option AV}
  {ps:List (Nat×Nat×az)} {h8:Array (Nat×Value)} {c:List AV}
  (hp:iA (fun(p:Nat×Nat×az) (q:Nat×Value)=>(∃R,fieldOf P t q.1=some (p.1,R)∧shN R=p.2.1)∧∀v,aw p.2.2=some v→aq w m O B v q.2) ps h8.toList)
  (h:jW aw (fun off _=>off) ps z=some c):∃u,(Instr.build t h8).run P w= .ok u w∧aq w m O B (.ag c) u:=by
 have hall:∀f∈fs.toList,∃i,P.info? f.type=some i:=by
  intro f hf;rw[←Array.any_toList,To] at hi;have:=hi f hf;cases h:P.info? f.type with
  |none=>simp[h] at this
  |some i=>exact⟨i,rfl⟩
 obtain⟨places,js,EP⟩:=b9r hall w;obtain⟨ej,hP,lK,lL⟩:=pW bw w;obtain⟨jG,rfl,mK,Kc⟩:=(lK w m O B).oP;have ri:iA (fun(p:Nat×Nat×az) (q:Nat×Value)=>places[q.1]? =some (p.1,p.2.1)∧∀v,aw p.2.2=some v→aq w m O B v q.2) ps h8.toList:=by
  clear h;revert hp;generalize h8.toList=gv
  induction ps generalizing gv with
  |nil=>cases gv<;>exact id
  |cons p ps ay=>
   cases gv with
   |nil=>exact id
   |cons q gv=>
    rintro⟨⟨⟨R,hf,f_⟩,av⟩,af⟩;refine⟨⟨?_,av⟩,ay gv af⟩;obtain⟨gq,sq,rf,eF,Kd,hs,_⟩:=J9 hf;rw[hu] at rf;cases rf;obtain⟨_,_,inf,vX,bZ⟩:=jI hs w;rw[EP q.1 sq inf eF vX,Kd,bZ,f_]
 obtain⟨j1,h1,h2,h3,_⟩:=A9 ps h8.toList z c jG ri mK Kc h;refine⟨.agg j1,?_,by have:=aq.vR h2 h3;simpa using this⟩;simp only[Instr.build,er,hP,ez,run_underlying hu,Value.cells,js];simp[h1]
theorem b9t{t e:TypeId}{n:Nat}{R:Option Nat}(hu:P.underlying t=some (.array n e))(hs:shapeOf P e=some R){z:List AV}(bw:zeroOf P t=some (.ag z)){aw:az→Option AV}
  {ps:List (Nat×Nat×az)} {h8:Array (Nat×Value)} {c:List AV}
  (hp:iA (fun(p:Nat×Nat×az) (q:Nat×Value)=>(p.1=q.1*shN R∧p.2.1=shN R)∧∀v,aw p.2.2=some v→aq w m O B v q.2) ps h8.toList)
  (h:jW aw (fun off _=>off) ps z=some c):∃u,(Instr.build t h8).run P w= .ok u w∧aq w m O B (.ag c) u:=by
 obtain⟨_,bZ,_⟩:=jI hs w;obtain⟨ej,hP,lK,lL⟩:=pW bw w;obtain⟨jG,rfl,mK,Kc⟩:=(lK w m O B).oP;have ri:iA (fun(p:Nat×Nat×az) (q:Nat×Value)=>(fun i=>some (i*shN R,shN R)) q.1=some (p.1,p.2.1)∧∀v,aw p.2.2=some v→aq w m O B v q.2) ps h8.toList:=by
  clear h;revert hp;generalize h8.toList=gv
  induction ps generalizing gv with
  |nil=>cases gv<;>exact id
  |cons p ps ay=>
   cases gv with
   |nil=>exact id
   |cons q gv=>
    rintro⟨⟨⟨h1,h2⟩,av⟩,af⟩;exact⟨⟨by rw[h1,h2],av⟩,ay gv af⟩
 obtain⟨j1,h1,h2,h3,_⟩:=A9 (place:=fun i=>some (i*shN R,shN R)) (fl:=fun off _=>off) ps h8.toList z c jG ri mK Kc h;refine⟨.agg j1,?_,by have:=aq.vR h2 h3;simpa using this⟩;simp only[Instr.build,er,hP,ez,run_underlying hu,Value.cells,bZ];simp[h1]
theorem Um(z:List AV):hN 0 z=[]:=rfl
theorem Un(n:Nat)(z:List AV):hN (n+1) z=z++hN n z:=rfl
theorem x0{z:List AV}{jG:List Value}(bw:bm w m O B z jG):∀n,bm w m O B (hN n z) ((List.range (n*jG.length)).map fun i=>jG[i%jG.length]!)
 |0=>by simp[Um];exact bm.nil
 |n+1=>by
  rw[Un,jV,sb,xH,List.range_add,nb,qY];have ay:=x0 bw n;by_cases h0:jG.length=0
  ·have:jG=[]:=nc h0;subst this;have Uo:z=[]:=nc (by have:=bw.1;simpa using this.symm);subst Uo;simpa using ay
  ·refine bm.append ?_ ?_
   ·have:((List.range jG.length).map fun i=>jG[i%jG.length]!)=jG:=by
     apply List.ext_getElem
     ·simp
     ·intro i h1 h2;simp only[ma,List.getElem_range];rw[Nat.mod_eq_of_lt h2];simp[h2]
    rw[this];exact bw
   ·have:((fun i=>jG[i%jG.length]!)∘fun x=>jG.length+x)=fun i=>jG[i%jG.length]! :=by
     funext i;simp
    rw[this];exact ay
theorem x1{z:List AV}(bw:∀x∈z,conf none x=true):∀n,∀x∈hN n z,conf none x=true
 |0,x,hx=>by simp[Um] at hx
 |n+1,x,hx=>by
  rw[Un] at hx;rcases e4.1 hx with h|h
  ·exact bw x h
  ·exact x1 bw n x h
end
section
variable {P:Program}{o:ad}{w:World}{m:Nat→Option Nat}{B:Nat}{f:Nat}
theorem b9u(af:Rel P o w m B){t e:TypeId}{R:Option Nat}(hu:P.underlying t=some (.slice e))(hs:shapeOf P e=some R){z:AV}(bw:zeroOf P e=some z)(tL:z.cells.length=shN R){n:Nat}(hn:n*shN R≤16777216){aw:az→Option AV}
  {ps:List (Nat×Nat×az)} {h8:Array (Nat×Value)} {c:List AV}
  (hp:iA (fun(p:Nat×Nat×az) (q:Nat×Value)=>(p.1=q.1∧p.2.1=shN R)∧∀v,aw p.2.2=some v→aq w m (a_ o m) B v q.2) ps h8.toList)
  (h:jW aw (fun i fl=>i*fl) ps (hN n z.cells)=some c):
  ∃bL ao aG,(Instr.buildSlice t n h8).run P w= .ok bL ao∧aq ao aG (a_ (o.push (.cells c)) aG) B (.al o.next 0 n R (some n)) bL∧Rel P (o.push (.cells c)) ao aG B∧Ext f o w m (o.push (.cells c)) ao aG:=by
 obtain⟨_,bZ,_⟩:=jI hs w;obtain⟨ej,hP,lK,lL⟩:=pW bw w;have mK:=(lK w m (a_ o m) B).cells;have kW:ej.cells.size=shN R:=by have:=mK.1;simp at this;omega
 have ri:iA (fun(p:Nat×Nat×az) (q:Nat×Value)=>(fun i=>some (i*shN R,shN R)) q.1=some (p.1*p.2.1,p.2.1)∧∀v,aw p.2.2=some v→aq w m (a_ o m) B v q.2) ps h8.toList:=by
  clear h;revert hp;generalize h8.toList=gv
  induction ps generalizing gv with
  |nil=>cases gv<;>exact id
  |cons p ps ay=>
   cases gv with
   |nil=>exact id
   |cons q gv=>
    rintro⟨⟨⟨h1,h2⟩,av⟩,af⟩;exact⟨⟨by rw[h1,h2],av⟩,ay gv af⟩
 have mL:=x0 mK n;have Ke:=x1 lL n;have tM:ej.cells.toList.length=shN R:=by simp[kW]
 rw[tM] at mL;obtain⟨j1,h1,h2,h3,aN⟩:=A9 (place:=fun i=>some (i*shN R,shN R)) ps h8.toList (hN n z.cells) c ((Array.range (n*shN R)).map fun i=>ej.cells.toList[i%shN R]!) ri
  (by simpa [vF] using mL) Ke h
 obtain⟨ao,aG,r1,jJ,km,pU,A_⟩:=EJ af f (el:=e) h2 h3;have x2:j1.size=n*shN R:=by
  have a6:=h2.1;have a2:=mL.1;simp at a6 a2;omega
 refine⟨.slice (some ⟨w.heap.size,0,none⟩) n n,ao,aG,?_,.al jJ (bK _) (fun c ab=>by cases ab;rfl) (n:=j1.size) (by unfold bsz;rw[km]) (by omega) (fun h=>by cases h),pU,A_⟩;have Kf:¬(n*shN R > 2^24):=by omega
 simp only[Instr.buildSlice,er,run_underlying hu,ez,bZ];rw[if_neg Kf];by_cases h0:n*shN R=0
 ·have aE:((Array.range (n*shN R)).map fun i=>ej.cells.toList[i%shN R]!)= #[]:=by rw[h0];apply ky;simp
  rw[aE] at h1;rw[if_pos h0];simp only[er,gX,ez,h0];have cZ:((Array.range 0).map fun x=>(#[]:Array Value)[x%(#[]:Array Value).size]!)= #[]:=by apply ky;simp
  rw[cZ,h1];simp[r1]
 ·have aE:((Array.range (n*shN R)).map fun i=>ej.cells.toList[i%shN R]!)=((Array.range (n*shN R)).map fun i=>ej.cells[i%ej.cells.size]!):=by
   apply ky;simp only[sc,vF];apply pF;intro a _;rw[kW,JF,oI];simp
  rw[aE] at h1;simp only[h0,if_false,er,hP,ez,gX];simp only[h1];simp[r1]
end
section
variable {P:Program}{w:World}{m:Nat→Option Nat}{O:Nat→Prop}{B:Nat}
theorem Kg{R fr:Option Nat}{v:AV}(h:conf R v=true)(h':conf fr v=true):R=fr:=by
 cases R<;>cases fr<;>cases v<;>simp[conf] at h h'<;>first|rfl|(subst h;simp_all)
theorem b9v(R:Option Nat)(c:List AV):elems R 0 c=some []:=rfl
theorem elems_succ(R:Option Nat)(n:Nat)(c:List AV):elems R (n+1) c=match eA R c with
 |none=>none
 |some v=>match elems R n (c.drop (shN R)) with|none=>none|some aX=>some (v::aX):=rfl
theorem x3{R:Option Nat}:∀ {n:Nat} {c:List AV} {aX:List AV},(∀x∈c,conf none x=true)→elems R n c=some aX→
  aX.length=n∧aX.flatMap AV.cells=c.take (n*shN R)∧n*shN R≤c.length∧∀v∈aX,conf R v=true
 |0,c,aX,_,h=>by rw[b9v] at h;cases h;simp
 |n+1,c,aX,hf,h=>by
  rw[elems_succ] at h;split at h<;>try (cases h;done)
  rename_i v av;split at h<;>cases h;rename_i ra jZ;obtain⟨h1,h2,h3,aN⟩:=x3 (fun x hx=>hf x (mH hx)) jZ;obtain⟨bH,de⟩:=Ub av hf;refine⟨by simp[h1],?_,?_,?_⟩
  ·rw[mb,h2,bH,jV,sb,xH (n*shN R),List.take_add]
  ·simp at h3;rw[jV];omega
  ·intro bJ vY;rcases dP.1 vY with rfl|fV
   ·exact b8P av hf
   ·exact aN bJ fV
theorem Up{xs:List AV}(h:∀v∈xs,∀x∈v.cells,conf none x=true):∀x∈xs.flatMap AV.cells,conf none x=true:=by
 intro x hx;obtain⟨v,av,hx⟩:=sd.1 hx;exact h v av x hx
theorem sr{R:Option Nat}{v:AV}(h:conf R v=true):v.cells.length=shN R:=by
 cases R with
 |none=>cases v<;>simp[conf] at h<;>rfl
 |some n=>cases v<;>simp[conf] at h;exact h
theorem Kh{R:Option Nat}{ar:Nat}:∀ {xs:List AV} {off:Nat} (aZ:Nat→Nat→Value),(∀i (h:i<xs.length),conf R (xs[i])=true)→
  (∀i (h:i<xs.length),∀j,j<(xs[i]).cells.length→w.cell? ⟨ar,off+i*shN R+j,none⟩=some (aZ i j))→
  (∀i (h:i<xs.length),∀j (aB:j<(xs[i]).cells.length),aq w (fun _=>none) O B ((xs[i]).cells[j]) (aZ i j))→
  ∃us,bm w m O B (xs.flatMap AV.cells) us∧us.length=xs.length*shN R∧∀j u,us[j]? =some u→w.cell? ⟨ar,off+j,none⟩=some u
 |[],off,aZ,_,_,_=>⟨[],bm.nil,by simp,fun j u h=>by simp at h⟩
 |x::xs,off,aZ,hs,ab,af=>by
  have hx:=hs 0 (by simp);have hlen:=sr hx;simp only[Ec] at hlen;obtain⟨us,h1,h2,h3⟩:=Kh (off:=off+shN R) (xs:=xs) (fun i j=>aZ (i+1) j) (fun i h=>hs (i+1) (by simpa using h))
   (fun i h j aB=>by have:=ab (i+1) (by simpa using h) j (by simpa using aB);rw[←this];congr 2;rw[jV];omega)
   (fun i h j aB=>af (i+1) (by simpa using h) j aB)
  refine⟨(List.range x.cells.length).map (aZ 0)++us,?_,?_,?_⟩
  ·rw[mb];refine bm.append ⟨by simp,fun i a6 a2=>?_⟩ h1;have:=(af 0 (by simp) i (by simpa using a6)).up (m:=m);simpa using this
  ·simp[h2,hlen,jV];omega
  ·intro j u hu;rw[vB] at hu;simp only[dO,Tj] at hu;split at hu
   ·rename_i aB;have:=ab 0 (by simp) j (by simpa using aB);simp[aB] at hu;subst hu;simpa using this
   ·rename_i aB;have:=h3 _ u hu;rw[←this];congr 2;omega
end
section
variable {P:Program}{o:ad}{w:World}{m:Nat→Option Nat}{B:Nat}{f:Nat}
theorem Ba(af:Rel P o w m B){x:AV}{u:Value}{xs:List AV}{R:Option Nat}(hx:aq w m (a_ o m) B x u)(h:readList o x=some xs)(ab:∀a∈xs,conf R a=true):
  ∃base c us,u= .slice base xs.length c∧xs.length≤c∧bm w m (a_ o m) B (xs.flatMap AV.cells) us∧us.length=xs.length*shN R∧(∀y∈xs.flatMap AV.cells,conf none y=true)∧
   (match base with|none=>xs=[]∧c=0|some a=>(xs≠[]→a.spot=none)∧(∀j v,us[j]? =some v→w.cell? (a.add j)=some v)∧(xs≠[]→a.block<w.heap.size)):=by
 unfold readList at h;split at h
 ·cases h;cases hx;exact⟨none,0,[],rfl,bK _,bm.nil,by simp,fun y aJ=>by simp at aJ,rfl,rfl⟩
 ·rename_i b9w fr b9x;cases h;cases hx with
  |kR=>exact⟨none,0,[],rfl,bK _,bm.nil,by simp,fun y aJ=>by simp at aJ,rfl,rfl⟩
  | @aD _ _ _ _ _ _ ar off dR sp aZ cY hs lg gC au hf dS=>
   by_cases he:xs=[]
   ·subst he;exact⟨some ⟨ar,off,sp⟩,dR,[],rfl,by simp,bm.nil,by simp,fun y aJ=>by simp at aJ,fun h=>absurd rfl h,fun j v h=>by simp at h,fun h=>absurd rfl h⟩
   ·have:fr=R:=by
     have h0:0<xs.length:=AQ.2 he;exact Kg (hs 0 h0) (ab _ (cB h0))
    subst this;obtain⟨us,h1,h2,h3⟩:=Kh aZ hs lg gC;obtain rfl:=dS he;exact⟨some ⟨ar,off,none⟩,dR,us,rfl,au,h1,h2,Up hf,fun _=>rfl,fun j v av=>by rw[iz];exact h3 j v av,fun bS=>(cY bS).2.1⟩
 ·rename_i b9w fr b9x;cases h;cases hx with
  | @jl _ _ _ _ _ _ a n hn he hx=>
   subst hn;cases hx with
   | @aD _ _ _ _ _ _ ar off dR sp aZ cY hs lg gC au hf dS=>
    have:fr=R:=by
     have h0:0<xs.length:=AQ.2 he;exact Kg (hs 0 h0) (ab _ (cB h0))
    subst this;obtain⟨us,h1,h2,h3⟩:=Kh aZ hs lg gC;obtain rfl:=dS he;exact⟨some ⟨ar,off,none⟩,xs.length,us,rfl,au,h1,h2,Up hf,fun _=>rfl,fun j v av=>by rw[iz];exact h3 j v av,fun bS=>(cY bS).2.1⟩
 ·rename_i id off len fr cap;split at h<;>try (cases h;done)
  rename_i c hg;cases hx with
  | @al _ _ _ _ _ _ ar n dR _ _ hm au p2 hn h6=>
   obtain⟨arr,el,aT,hh,lg,me,bw,jq⟩:=af.cells hm hg;obtain⟨h1,h2,h3,aN⟩:=x3 (fun x hx=>jq x (mH hx)) h;have b9y:xs≠[]→fr=R:=fun he=>by
    have h0:0<xs.length:=AQ.2 he;exact Kg (aN _ (cB h0)) (ab _ (cB h0))
   have hmul:len*shN fr=len*shN R:=by
    by_cases he:xs=[]
    ·subst he;simp at h1;subst h1;simp
    ·rw[b9y he]
   refine⟨some ⟨ar,off,none⟩,dR,((arr.toList.take c.length).drop off).take (len*shN R),by rw[h1],by omega,?_,?_,?_,fun _=>rfl,?_,fun _=>vP hh⟩
   ·rw[h2,hmul];exact(lg.drop off).take _
   ·simp at h3 ⊢;rw[h1];omega
   ·rw[h2];exact fun y aJ=>jq y (mH (sa aJ))
   ·intro j v av;rw[iz,vS hh];obtain⟨aB,vY⟩:=mG.1 av;simp at aB;rw[←vY];simp
 ·cases h
theorem b9z(l:List Nat):(l.map fun c=>AV.i .u8 (Int.ofNat c)).flatMap AV.cells=l.map fun c=>AV.i .u8 (Int.ofNat c):=by
 induction l with
 |nil=>rfl
 |cons a l ay=>rw[k9,mb,ay];rfl
theorem b9A(af:Rel P o w m B){x:AV}{u:Value}{xs:List AV}{R:Option Nat}{nq:TypeId}(ax:(∃eQ,P.underlying nq=some (.slice eQ))∨P.underlying nq=some .string)(hx:aq w m (a_ o m) B x u)
  (h:newOf o x=some xs) (ab:∀a∈xs,conf R a=true):
  ∃us,bm w m (a_ o m) B (xs.flatMap AV.cells) us∧us.length=xs.length*shN R∧(∀y∈xs.flatMap AV.cells,conf none y=true)∧Src P (shN R) nq u xs.length us w:=by
 have one:∀ {us:List Value},bm w m (a_ o m) B (xs.flatMap AV.cells) us→(∀y∈xs.flatMap AV.cells,conf none y=true)→∀u∈us,u.oneCell'=true:=fun {us} h1 h2 u hu=>by
  obtain⟨i,hi,rfl⟩:=k8 hu;have dc:i<(xs.flatMap AV.cells).length:=by rw[←h1.1];exact hi
  exact(h1.2 i dc hi).J3 (h2 _ (cB dc))
 unfold newOf at h;split at h
 ·rename_i l;cases h;obtain⟨rfl,au⟩:=hx.nY;have x4:(l.map fun c=>AV.i .u8 (Int.ofNat c)).flatMap AV.cells=l.map fun c=>AV.i .u8 (Int.ofNat c):=b9z l;have bZ:l≠[]→shN R=1:=fun bS=>by
   cases l with
   |nil=>exact absurd rfl bS
   |cons a l=>
    have:=ab (.i .u8 (Int.ofNat a)) (by simp);cases R with
    |none=>rfl
    |some n=>simp[conf] at this
  have ER:byteCells (strOf l)=l.map fun c=>Value.int .u8 (Int.ofNat c):=by
   unfold byteCells;rw[T0,qY];apply pF;intro c Ki;have:c<256:=au c Ki;simp;omega
  have x5:bm w m (a_ o m) B ((l.map fun c=>AV.i .u8 (Int.ofNat c)).flatMap AV.cells) (byteCells (strOf l)):=by
   rw[x4,ER];exact⟨by simp,fun i h1 h2=>by simpa using aq.i _ _⟩
  have Uq:∀y∈(l.map fun c=>AV.i .u8 (Int.ofNat c)).flatMap AV.cells,conf none y=true:=by
   rw[x4];intro y aJ;obtain⟨c,_,rfl⟩:=fq.1 aJ;rfl
  have hlen:(byteCells (strOf l)).length=(l.map fun c=>AV.i .u8 (Int.ofNat c)).length*shN R:=by
   rw[ER];by_cases he:l=[]
   ·subst he;simp
   ·rw[bZ he];simp
  refine⟨byteCells (strOf l),x5,hlen,Uq,⟨ax,fun ao=>?_,?_,?_,hlen,one x5 Uq⟩⟩
  ·simp[Builtin.lenOf,tH]
  ·have:(l.map fun c=>AV.i .u8 (Int.ofNat c)).length=(strOf l).size:=by simp[tH]
   rw[this];have:=firstCells_string (P:=P) (strOf l) w;simpa [Builtin.firstCells] using this
  ·have:(l.map fun c=>AV.i .u8 (Int.ofNat c)).length=(strOf l).size:=by simp[tH]
   rw[this];have:=firstCells_string (P:=P) (strOf l) w.drew;simpa [Builtin.firstCells] using this
 ·obtain⟨base,c,us,rfl,hle,h1,h2,h3,aN⟩:=Ba af hx h ab;refine⟨us,h1,h2,h3,⟨ax,fun _=>rfl,?_,?_,h2,one h1 h3⟩⟩
  ·cases base with
   |none=>obtain⟨rfl,_⟩:=aN;have:us=[]:=nc (by simpa using h2);subst this;exact run_firstCells_none w _ _ _ _
   |some a=>exact run_firstCells_some w _ _ a _ _ us h2 aN.2.1
  ·cases base with
   |none=>obtain⟨rfl,_⟩:=aN;have:us=[]:=nc (by simpa using h2);subst this;exact run_firstCells_none w.drew _ _ _ _
   |some a=>exact run_firstCells_some w.drew _ _ a _ _ us h2 (by simpa using aN.2.1)
theorem ES(af:Rel P o w m B)(f:Nat){t nq ty e:TypeId}{i:TypeInfo}{z:Value}{R:Option Nat}(ht:P.underlying t=some (.slice e))(hi:P.info? e=some i)(bZ:i.size=shN R)(bw:i.zero=some z)(kW:z.cells.size=shN R)
  (oS:i.bytes≠0) {base:Option Addr} {jc oT n:Nat} {tN vZ:List AV} {olds news:List Value} {x:Value} (aj:bm w m (a_ o m) B tN olds) (Bb:olds.length=jc*shN R) (b9B:∀y∈tN,conf none y=true)
  (jq:(Builtin.firstCells (shN R) jc (.slice base jc oT)).run P w.drew= .ok olds.toArray w.drew)
  (hn:bm w m (a_ o m) B vZ news) (ET:news.length=n*shN R) (b9C:∀y∈vZ,conf none y=true) (hs:Src P (shN R) nq x n news w) (hg:oT<jc+n)
  (hb:(3*(jc+n)+2000)*i.bytes≤281474976710656):
  ∃u ao aG,(Builtin.append_ #[t,nq] ty #[.slice base jc oT,x]).run P w= .ok u ao∧aq ao aG (a_ (o.push (.cells (tN++vZ))) aG) B (.al o.next 0 (jc+n) R none) u∧
   Rel P (o.push (.cells (tN++vZ))) ao aG B∧Ext f o w m (o.push (.cells (tN++vZ))) ao aG:=by
 have p3:1≤i.bytes:=Tp.2 oS;have vV:(3*(jc+n)+2000)*1≤(3*(jc+n)+2000)*i.bytes:=Tq _ p3;have tO:2*((jc+n)*i.bytes)≤(3*(jc+n)+2000)*i.bytes:=by
  rw[←Nat.mul_assoc];exact pI _ (by omega)
 have bX:=run_append_grow_src (P:=P) w t nq ty e i z ht hi bw base jc oT olds (by rw[bZ];exact jq) x n news (by rw[bZ];exact hs) hg (by omega) (growslice_fits hg (by omega));have jd:=grownCap_ge w (jc+n) oT e;have jK:=aj.1;have d5N:=hn.1;have b9D:tN.length=jc*shN R:=by omega
 have b9E:vZ.length=n*shN R:=by omega
 have ss:((olds++news).toArray++Builtin.zeroCells z.cells (grownCap w (jc+n) oT e-(jc+n))).size=grownCap w (jc+n) oT e*shN R:=by
  simp only[Tr,Ts,size_zeroCells,kW,k_,Bb,ET,← jV]
  congr 1;omega
 obtain⟨h1,h2⟩:=af.alloc f (w.drew.alloc (.cells ((olds++news).toArray++Builtin.zeroCells z.cells (grownCap w (jc+n) oT e-(jc+n))) e)) (.cells (tN++vZ)) _ rfl rfl rfl rfl rfl
  (.cells (by rw[ss,k_,b9D,b9E,← jV];exact pI _ jd) (fun j h h'=>by
   have aB:j<(olds++news).length:=by simp only[k_] at h ⊢;omega
   have:=(aj.append hn).2 j h aB;rw[Tt (by simpa using aB)];simpa using this) (fun j _=>by simp) (fun y aJ=>(e4.1 aJ).elim (b9B y) (b9C y)))
 refine⟨_,_,_,bX,.al (gK _ _ _) jd (fun c ab=>by cases ab) (n:=grownCap w (jc+n) oT e*shN R) ?_ (by omega) (fun _=>by omega),h1,h2⟩;have:(w.drew.alloc (.cells ((olds++news).toArray++Builtin.zeroCells z.cells (grownCap w (jc+n) oT e-(jc+n))) e)).heap[w.heap.size]? =some (.cells ((olds++news).toArray++Builtin.zeroCells z.cells (grownCap w (jc+n) oT e-(jc+n))) e):=by
  exact heap_alloc_new w.drew _
 unfold bsz;rw[this];simp only[ss]
end
theorem jt{α:Type}{p:α→Bool}:∀ {l:List α},cV p l=true→∀x∈l,p x=true
 |[],_,x,hx=>by simp at hx
 |y::l,h,x,hx=>by
  have h':cond (p y) (cV p l) false=true:=h;cases aJ:p y with
  |false=>rw[aJ] at h';cases h'
  |true=>
   rw[aJ] at h';rcases dP.1 hx with rfl|hx
   ·exact aJ
   ·exact jt h' x hx
theorem b9F{b:Bool}(h:¬b=true):b=false:=by cases b<;>simp at h<;>rfl
section
variable {P:Program}{o:ad}{w:World}{m:Nat→Option Nat}{B:Nat}{f:Nat}
theorem b9G(af:Rel P o w m B){t nq ty e:TypeId}{i:TypeInfo}{tP:Value}{R:Option Nat}(ht:P.underlying t=some (.slice e))(hi:P.info? e=some i)(bZ:i.size=shN R)(bw:i.zero=some tP)(kW:tP.cells.size=shN R)
  (oS:i.bytes≠0) (ax:(∃eQ,P.underlying nq=some (.slice eQ))∨P.underlying nq=some .string) {s x:AV} {us Bc:Value} (hs:aq w m (a_ o m) B s us) (hx:aq w m (a_ o m) B x Bc)
  {v:AV} {ah:ad} (h:appendO f o R i.bytes s x=some (v,ah)):
  ∃u ao aG,(Builtin.append_ #[t,nq] ty #[us,Bc]).run P w= .ok u ao∧aq ao aG (a_ ah aG) B v u∧Rel P ah ao aG B∧Ext f o w m ah ao aG:=by
 unfold appendO at h;split at h<;>try (cases h;done)
 rename_i old new hold nV;cases hb:(cV (conf R) old&&cV (conf R) new&&Nat.ble ((3*(old.length+new.length)+2000)*i.bytes) 281474976710656) with
 |false=>rw[hb] at h;cases h
 |true=>
  rw[hb,cond_true] at h;simp only[bT] at hb;obtain⟨⟨p3,vV⟩,tO⟩:=hb;have su:=eY tO;obtain⟨news,kC,lM,rj,v7⟩:=b9A af ax hx nV (jt vV);obtain⟨base,c,olds,rfl,et,oU,nr,EU,Kj⟩:=Ba af hs hold (jt p3);have jq:(Builtin.firstCells (shN R) old.length (.slice base old.length c)).run P w.drew= .ok olds.toArray w.drew:=by
   cases base with
   |none=>obtain⟨rfl,_⟩:=Kj;have:olds=[]:=nc (by simpa using nr);subst this;exact run_firstCells_none w.drew _ _ _ _
   |some a=>exact run_firstCells_some w.drew _ _ a _ _ olds nr (by simpa using Kj.2.1)
  split at h
  ·-- nothing
   cases h;have ET:news=[]:=nc (by simpa using lM);subst ET;exact⟨_,w,m,run_append_nothing (P:=P) w t nq ty e i ht hi base old.length c et Bc (by rw[bZ];exact v7),hs,af,Ext.refl _ _ _ _⟩
  ·rename_i sv Ur;generalize tQ:sv::Ur=new at *;have Bd:0<new.length:=by rw[←tQ];simp
   clear tQ sv Ur;split at h<;>try (cases h;done)
   ·-- a row of pJ store
    rename_i id off len fr cap;split at h<;>try (cases h;done)
    rename_i f_;subst f_;have c1:=hs;generalize hQ:Value.slice base old.length c=us at hs;cases hs with
    | @al _ _ _ _ _ _ ar b9H dR _ _ hm au p2 hn h6 Kk=>
    cases hQ;have x6:∀gp,o.get id=some (.cells gp)→live o id:=fun gp hg=>⟨_,hg,rfl⟩
    obtain⟨gp,hg⟩:∃gp,o.get id=some (.cells gp):=by
     simp only[readList] at hold;split at hold
     ·exact⟨_,by assumption⟩
     ·cases hold
    obtain⟨arr,el,aT,hh,lg,me,Kl,b9I⟩:=af.cells hm hg;have Us:arr.size=b9H:=by unfold bsz at hn;rw[hh] at hn;simpa using hn
    have Km:old.flatMap AV.cells=(gp.drop off).take (old.length*shN fr)∧old.length*shN fr≤(gp.drop off).length:=by
     simp only[readList,hg] at hold;obtain⟨a6,a2,a3,_⟩:=x3 (fun x hx=>b9I x (mH hx)) hold;exact⟨a2,a3⟩
    have room:old.length+new.length≤c→(Builtin.append_ #[t,nq] ty #[.slice (some ⟨ar,off,none⟩) old.length c,Bc]).run P w= .ok (.slice (some ⟨ar,off,none⟩) (old.length+new.length) c) (w.setCells ar (off+old.length*shN fr) news):=fun oV=>by
     have hmul:=pI (shN fr) oV;rw[jV] at hmul;have:=run_append_room_src (P:=P) w t nq ty e i ht hi ar off old.length c Bc new.length news (by rw[bZ];exact v7) oV
      (fun j aB=>by rw[bZ,vS hh,l_ (by omega)];rfl)
      (fun j aB=>by rw[bZ,EI hh];exact Kl _ (by omega))
     rw[bZ] at this;exact this
    split at h
    ·rename_i x7;obtain rfl:=p2 x7 rfl;cases oV:Nat.ble (old.length+new.length) c with
     |true=>
      rw[oV,cond_true] at h;have Kn:=eY oV;split at h<;>try (cases h;done)
      rename_i eF;simp only[hg] at h;split at h<;>cases h;rename_i bY df;obtain⟨ao,h2,h3,aN⟩:=J4 (f:=f) af (by simpa [fX] using eF) hm hg df kC rj;have h1:∀u∈news,u.oneCell'=true:=v7.one;have hmul:=pI (shN fr) Kn;rw[jV] at hmul;have bX:=run_storeCells_cells (P:=P) ar (off+old.length*shN fr) news 0 w
       (fun j aB=>by rw[vS hh,l_ (by omega)];rfl)
       (fun j aB=>by rw[EI hh];exact Kl _ (by omega)) h1
      have hw:ao=w.setCells ar (off+old.length*shN fr) news:=by
       rw[h2] at bX;simpa using bX
      refine⟨_,ao,m,by rw[hw];exact room Kn,?_,h3,aN⟩;exact .al (aN.mono _ _ hm) Kn (fun c ab=>by cases ab;rfl) (aN.h7 _ _ hn) h6 (fun h=>by cases h)
     |false=>
      rw[oV,cond_false] at h;cases h;have b9J:c<old.length+new.length:=by
       rcases mF c (old.length+new.length) with h|h
       ·exact h
       ·rw[kg h] at oV;cases oV
      exact ES af f ht hi bZ bw kW oS oU nr EU jq kC lM rj v7 b9J su
    ·split at h<;>try (cases h;done)
     rename_i eF;have rk:f≤id:=by simpa [fX] using eF
     split at h<;>cases h;rename_i Kd;obtain rfl:=eM Kd;by_cases oV:old.length+new.length≤c
     ·have hmul:=pI (shN fr) oV;rw[jV] at hmul;obtain⟨r1,jJ,km,pU⟩:=ED news w ar (0+old.length*shN fr);have rb:=EC news w ar (0+old.length*shN fr) arr el aT hh;have EE:(old.flatMap AV.cells).length=old.length*shN fr:=by have:=oU.1;omega
      have b9K:(new.flatMap AV.cells).length=new.length*shN fr:=by have:=kC.1;omega
      have dH:=af.move rk hm (x6 _ hg) (w.setCells ar (0+old.length*shN fr) news) (.cells (old.flatMap AV.cells++new.flatMap AV.cells)) rfl r1 (fun b hb=>heap_setCells_other news w ar _ b hb) (f:=f)
       (fun n hn=>by unfold bsz at hn ⊢;rw[hh] at hn;rw[rb];simpa [q_] using hn) jJ km pU ⟨_,rb,?_⟩
      ·obtain⟨h3,aN⟩:=dH;exact⟨_,_,_,room oV,.al (gK _ _ _) oV (fun c ab=>by cases ab) (aN.h7 _ _ hn) h6 Kk,h3,aN⟩
      ·refine .cells (by rw[q_,k_,EE,b9K];omega) (fun j h h'=>?_) (by rw[q_];exact Kl) (fun y aJ=>(e4.1 aJ).elim (EU y) (rj y));rw[k_] at h;have v8:=xV news arr (0+old.length*shN fr) j (by omega);rw[l_ h'] at v8;by_cases aB:j<(old.flatMap AV.cells).length
       ·rw[AK aB];rw[if_neg (by omega)] at v8;have b9L:=oU.2 j aB (by rw[oU.1];exact aB);have Ko:arr[j]? =some (olds[j]'(by rw[oU.1];exact aB)):=by
         have:=Kj.2.1 j _ (cS (by rw[oU.1];exact aB));rw[iz,vS hh] at this;simpa using this
        rw[Ko] at v8;rw[xG v8];exact b9L
       ·rw[AL (by omega)];rw[if_pos (by omega)] at v8;have mf:j-(0+old.length*shN fr)=j-(old.flatMap AV.cells).length:=by omega
        rw[mf,cS (by omega)] at v8;rw[xG v8];exact kC.2 _ (by omega) _
     ·have b9M:=af.c7 (f:=f) rk hm (x6 _ hg) w .dead rfl (fun _ _=>rfl) (fun _ h=>h) rfl rfl rfl (fun h=>by cases h);obtain⟨iR,fg⟩:=b9M;have EV:o.next=(o.set id .dead).next:=rfl;have b9N:=ES (ty:=ty) iR f ht hi bZ bw kW oS (oU.ext fg af) nr EU jq (kC.ext fg af) lM rj v7 (by omega) su;obtain⟨u,ao,aG,g1,g2,g3,g4⟩:=b9N;exact⟨u,ao,aG,g1,g2,g3,fg.trans af g4⟩
   ·cases h;have b9O:old=[]:=by simp only[readList] at hold;cases hold;rfl
    subst b9O;cases hs;have h0:olds=[]:=nc (by simpa using nr);subst h0;have:=ES (ty:=ty) af f ht hi bZ bw kW oS (tN:=[]) (olds:=[]) (jc:=0) (oT:=0) bm.nil (by simp) (fun y aJ=>by simp at aJ) jq kC lM rj v7 (by omega) (by simpa using su);simpa using this
   ·split at h<;>try (cases h;done)
    rename_i f_;subst f_;cases h;generalize hQ:Value.slice base old.length c=us at hs;cases hs with
    |jl hn bS hx=>
    cases hQ;exact ES af f ht hi bZ bw kW oS oU nr EU jq kC lM rj v7 (by omega) su
theorem EW{b:Nat}{I:Obj}(h:w.heap[b]? =some I)(ab:∀c e z,I≠ .cells c e z):(getObj b).run P w= .ok I w:=by
 simp only[getObj,Sem.run,h]
theorem Ut{b:Nat}{I:Obj}(bE:Obj)(h:w.heap[b]? =some I)(ab:∀c e z,I≠ .cells c e z):(setObj b bE).run P w= .ok () {w with heap:=w.heap.setIfInBounds b bE}:=by
 simp only[setObj,Sem.run,h]
theorem b9P{t ty n e:TypeId}(ht:P.underlying t=some (.array n e))(u:Value):(Builtin.len_ #[t] ty #[u]).run P w= .ok (.int .i64 (Int.ofNat n)) w:=by
 simp[Builtin.len_,run_underlying ht,goInt]
theorem Kp(af:Rel P o w m B){t ty:TypeId}{k:Nat}(ht:(k=1∧∃e,P.underlying t=some (.slice e))∨(k=0∧P.underlying t=some .string)∨(k=2∧∃a e,P.underlying t=some (.map a e))){x:AV}{n:Nat}{u:Value}(hx:aq w m (a_ o m) B x u)
  (h:lenA o k x=some n):(Builtin.len_ #[t] ty #[u]).run P w= .ok (.int .i64 (Int.ofNat n)) w:=by
 unfold lenA at h;split at h
 ·cases h;obtain⟨rfl,_⟩:=hx.nY;rcases ht with⟨h,_⟩|⟨_,ht⟩|⟨h,_⟩<;>first|(cases h;done)|skip
  simp[Builtin.len_,run_underlying ht,goInt,tH]
 ·cases h;cases hx;rcases ht with⟨_,e,ht⟩|⟨h,_⟩|⟨h,_⟩<;>first|(cases h;done)|skip
  simp[Builtin.len_,run_underlying ht,goInt]
 ·cases h;cases hx;rcases ht with⟨_,e,ht⟩|⟨h,_⟩|⟨h,_⟩<;>first|(cases h;done)|skip
  simp[Builtin.len_,run_underlying ht,goInt]
 ·cases h;rcases ht with⟨_,e,ht⟩|⟨h,_⟩|⟨h,_⟩<;>first|(cases h;done)|skip
  cases hx<;>simp[Builtin.len_,run_underlying ht,goInt]
 ·cases h;cases hx;rcases ht with⟨h,_⟩|⟨h,_⟩|⟨_,a,e,ht⟩<;>first|(cases h;done)|skip
  simp[Builtin.len_,run_underlying ht,goInt]
 ·split at h<;>cases h;rename_i es cl hg;obtain⟨ar,hm,rfl⟩:=hx.EK;obtain⟨bE,h1,h2⟩:=af.obj _ _ _ hm hg rfl;rcases ht with⟨h,_⟩|⟨h,_⟩|⟨_,a,e,ht⟩<;>first|(cases h;done)|skip
  cases h2 with
  |map au _=>simp[Builtin.len_,run_underlying ht,goInt,EW h1 (fun _ _ _ h=>by cases h),au]
 ·cases h
theorem EX{k:Nat}{x:AV}{r:bG}(h:lenU o k x=some r):(k=0∧∃ex,x= .fY ex∧r= .gJ [(.iu true,o),(.iu false,o)])∨(k=1∧∃I i,x= .eN I i∧r= .val (.gH 0) o):=by
 unfold lenU at h;split at h<;>cases h
 ·exact .inl ⟨rfl,_,rfl,rfl⟩
 ·exact .inr ⟨rfl,_,_,rfl,rfl⟩
theorem EY{k:Nat}{x:AV}{r:bG}(h:lenU o k x=some r):(∃l,r= .gJ l)∨(r= .val (.gH 0) o∧∀b7,lenA b7 k x=none∧lenU b7 k x=some (.val (.gH 0) b7)):=by
 rcases EX h with⟨_,_,_,e⟩|⟨rfl,_,_,rfl,e⟩
 ·exact .inl ⟨_,e⟩
 ·exact .inr ⟨e,fun _=>⟨rfl,rfl⟩⟩
theorem b9Q{t ty e:TypeId}(ht:P.underlying t=some (.slice e)){x:AV}{n:Nat}{u:Value}{O:Nat→Prop}(hx:aq w m O B x u)
  (h:capA x=some n):(Builtin.cap_ #[t] ty #[u]).run P w= .ok (.int .i64 (Int.ofNat n)) w:=by
 unfold capA at h;split at h<;>cases h
 ·cases hx;simp[Builtin.cap_,run_underlying ht,goInt]
 ·cases hx with
  |al h au ab hn h6=>
   obtain rfl:=ab _ rfl;simp[Builtin.cap_,run_underlying ht,goInt]
theorem Kq{x:AV}{r:bG}(h:capO f o x=some r):∃id off len R c,x= .al id off len R none∧f≤id∧o.get id=some (.cells c)∧c.length=off+len*shN R∧r= .gJ ((List.range 12).map (fun k=>(AV.i .i64 (Int.ofNat (len+k)),o.set id (.gI c (k*shN R))))++[(AV.gH (len+12),o.set id (.gI c (12*shN R)))]):=by
 unfold capO at h;split at h<;>try (cases h;done)
 rename_i id off len R;cases h1:Nat.blt id f with
 |true=>rw[h1] at h;cases h
 |false=>
  rw[h1,cond_false] at h;split at h<;>try (cases h;done)
  rename_i c hg;cases h2:Nat.beq c.length (off+len*shN R) with
  |false=>rw[h2] at h;cases h
  |true=>
   rw[h2,cond_true] at h;cases h;exact⟨id,off,len,R,c,rfl,Nat.le_of_not_lt (fun h=>by rw[show Nat.blt id f=true from kg h] at h1;cases h1),hg,eM h2,rfl⟩
theorem b9R(af:Rel P o w m B){t ty e:TypeId}(ht:P.underlying t=some (.slice e)){x:AV}{u:Value}(hx:aq w m (a_ o m) B x u){l:List (AV×ad)}(h:capO f o x=some (.gJ l)):
  ∃p∈l,∃bL ao aG,(Builtin.cap_ #[t] ty #[u]).run P w= .ok bL ao∧aq ao aG (a_ p.2 aG) B p.1 bL∧Rel P p.2 ao aG B∧Ext f o w m p.2 ao aG:=by
 obtain⟨id,off,len,R,c,rfl,eF,hg,jK,aE⟩:=Kq h;injection aE with aE
 subst aE;cases hx with
 | @al _ _ _ _ _ _ ar n dR _ _ hm au p2 hn h6 Kk=>
  obtain⟨arr,el,aT,hh,lg,me,bw,jq⟩:=af.cells hm hg;have gb:arr.size=n:=by unfold bsz at hn;rw[hh] at hn;simpa using hn
  have d5O:=Kk rfl;have main:∀k,len+k≤dR→Rel P (o.set id (.gI c (k*shN R))) w m B∧Ext f o w m (o.set id (.gI c (k*shN R))) w m:=fun k ax=>by
   have hmul:=pI (shN R) ax;rw[jV] at hmul;refine af.c7 eF hm ⟨_,hg,rfl⟩ w (.gI _ _) rfl (fun _ _=>rfl) (fun _ h=>h) rfl rfl rfl (fun _=>⟨_,hh,?_⟩);refine .gI (by omega) (fun i h h'=>?_) bw jq;have:=lg.2 i h (by rw[lg.1];exact h);simpa using this
  by_cases ax:dR<len+12
  ·obtain⟨h1,h2⟩:=main (dR-len) (by omega);refine⟨_,JG _ (fq.2 ⟨dR-len,List.mem_range.2 (by omega),rfl⟩),.int .i64 (Int.ofNat dR),w,m,by simp[Builtin.cap_,run_underlying ht,goInt],?_,h1,h2⟩;show aq w m _ B (.i .i64 (Int.ofNat (len+(dR-len)))) _;rw[show len+(dR-len)=dR by omega];exact .i _ _
  ·obtain⟨h1,h2⟩:=main 12 (by omega);exact⟨_,Ed _ (e3.2 rfl),.int .i64 (Int.ofNat dR),w,m,by simp[Builtin.cap_,run_underlying ht,goInt],.gH dR (by omega),h1,h2⟩
theorem aq.b9S{w:World}{m:Nat→Option Nat}{O:Nat→Prop}{B:Nat}{old:Bool}{i:Nat}{u:Value}(h:aq w m O B (.eN old i) u):∃a l c,u= .slice a l c:=by cases h with|eN hu _=>exact⟨_,_,_,hu⟩
theorem b9T{n j:Nat}{u bL:Value}{O:Nat→Prop}(hx:aq w m O B (.gH n) u)(aJ:aq w m O B (.i .i64 (Int.ofNat j)) bL)(aB:j≤n)(t:TypeId)(ts:Array TypeId):
  (Builtin.min_ ts t #[u,bL]).run P w= .ok (.int .i64 (Int.ofNat j)) w:=by
 cases hx with
 |gH k ax=>
  obtain rfl:=aJ.kB;have e:(if(Int.ofNat j)<(Int.ofNat k) then(Int.ofNat j) else Int.ofNat k)=Int.ofNat j:=by
   split
   ·rfl
   ·rename_i h;congr 1;simp only[vE,Ea] at h;omega
  simp[Builtin.min_,Builtin.min2];simpa using e
theorem b9U{n j:Nat}{u bL:Value}{O:Nat→Prop}(hx:aq w m O B (.i .i64 (Int.ofNat j)) u)(aJ:aq w m O B (.gH n) bL)(aB:j≤n)(t:TypeId)(ts:Array TypeId):
  (Builtin.min_ ts t #[u,bL]).run P w= .ok (.int .i64 (Int.ofNat j)) w:=by
 cases aJ with
 |gH k ax=>
  obtain rfl:=hx.kB;have e:(if(Int.ofNat k)<(Int.ofNat j) then(Int.ofNat k) else Int.ofNat j)=Int.ofNat j:=by
   split
   ·rename_i h;simp only[vE,Ea] at h;omega
   ·rfl
  simp[Builtin.min_,Builtin.min2];simpa using e
theorem Uu{k:IntKind}{a b:Int}{u bL:Value}{O:Nat→Prop}(hx:aq w m O B (.i k a) u)(aJ:aq w m O B (.i k b) bL)(t:TypeId)(ts:Array TypeId):
  (Builtin.min_ ts t #[u,bL]).run P w= .ok (.int k (if b<a then b else a)) w∧(Builtin.max_ ts t #[u,bL]).run P w= .ok (.int k (if b > a then b else a)) w:=by
 obtain rfl:=hx.kB;obtain rfl:=aJ.kB;constructor
 ·simp[Builtin.min_,Builtin.min2]
 ·simp[Builtin.max_,Builtin.max2]
end
section
variable {P:Program}{w:World}{m:Nat→Option Nat}{O:Nat→Prop}{B:Nat}
def Uv(k:Nat)(d:TypeDesc):Prop:=(k=0∧∃j,d= .int j)∨(k=1∧d= .string)∨(k=2∧d= .bool)
theorem Kr{t:TypeId}{k:Nat}(h:leafKind P t=some k):∃d,P.underlying t=some d∧Uv k d:=by
 unfold leafKind at h;split at h<;>cases h
 ·exact⟨_,by assumption,.inl ⟨rfl,_,rfl⟩⟩
 ·exact⟨_,by assumption,.inr (.inl ⟨rfl,rfl⟩)⟩
 ·exact⟨_,by assumption,.inr (.inr ⟨rfl,rfl⟩)⟩
theorem b9V{x y:List Nat}(hx:∀c∈x,c<256)(aJ:∀c∈y,c<256):(strOf x==strOf y)=eqL x y:=by
 rw[hD,Tl,kU];constructor
 ·intro h;have:=congrArg ByteArray.toList h;rw[xX,xX] at this;exact J6 x y hx aJ this
 ·rintro rfl;rfl
theorem v_{t:TypeId}{k:Nat}(ax:leafKind P t=some k){x y:AV}{u v:Value}{r:Bool}(hx:aq w m O B x u)(aJ:aq w m O B y v)(h:leafEq k x y=some r):
  (∀d ao,(Op.equalIn (d+1) t u v).run P ao= .ok r ao)∧(∃d,P.underlying t=some d∧Uv k d∧Instr.sameNow d u v=some r)∧(r=true→∀n,Instr.sameBits n u v=true)∧(∀e d ao,(Instr.checkKey e (d+1) t u).run P ao= .ok () ao):=by
 obtain⟨d,an,wa⟩:=Kr ax;unfold leafEq at h;split at h
 ·rename_i cc a cJ b;split at h<;>cases h;rename_i mM;subst mM;obtain rfl:=hx.kB;obtain rfl:=aJ.kB;rcases wa with⟨_,j,rfl⟩|⟨h,_⟩|⟨h,_⟩<;>first|(cases h;done)|skip
  have j0:(a==b)=decide (a=b):=by rw[hD];simp
  refine⟨fun d ao=>?_,⟨_,an,.inl ⟨rfl,j,rfl⟩,?_⟩,fun af n=>?_,fun e d ao=>?_⟩
  ·simp[Op.equalIn,run_underlying an,j0]
  ·simp[Instr.sameNow,j0]
  ·simp at af;subst af;simp[Instr.sameBits]
  ·simp[Instr.checkKey,run_underlying an]
 ·rename_i a b;cases h;obtain⟨rfl,h1⟩:=hx.nY;obtain⟨rfl,h2⟩:=aJ.nY;rcases wa with⟨h,_⟩|⟨_,rfl⟩|⟨h,_⟩<;>first|(cases h;done)|skip
  have j0:=b9V h1 h2;refine⟨fun d ao=>?_,⟨_,an,.inr (.inl ⟨rfl,rfl⟩),?_⟩,fun af n=>?_,fun e d ao=>?_⟩
  ·simp[Op.equalIn,run_underlying an,j0]
  ·simp[Instr.sameNow,j0]
  ·simp[Instr.sameBits,j0,af]
  ·simp[Instr.checkKey,run_underlying an]
 ·rename_i a b;cases h;obtain rfl:=hx.tI;obtain rfl:=aJ.tI;rcases wa with⟨h,_⟩|⟨h,_⟩|⟨_,rfl⟩<;>first|(cases h;done)|skip
  refine⟨fun d ao=>?_,⟨_,an,.inr (.inr ⟨rfl,rfl⟩),?_⟩,fun af n=>?_,fun e d ao=>?_⟩
  ·simp[Op.equalIn,run_underlying an]
  ·simp[Instr.sameNow]
  ·simp[Instr.sameBits];simpa using af
  ·simp[Instr.checkKey,run_underlying an]
 ·rename_i ex b;cases hm:oK b ex with
  |false=>rw[hm] at h;cases h
  |true=>
   rw[hm] at h;cases h;obtain⟨s,rfl,bS⟩:=EL hx hm;obtain⟨rfl,h2⟩:=aJ.nY;rcases wa with⟨h,_⟩|⟨_,rfl⟩|⟨h,_⟩<;>first|(cases h;done)|skip
   have j0:=T6 bS;refine⟨fun d ao=>?_,⟨_,an,.inr (.inl ⟨rfl,rfl⟩),?_⟩,fun af n=>?_,fun e d ao=>?_⟩
   ·simp[Op.equalIn,run_underlying an,j0]
   ·simp[Instr.sameNow,j0]
   ·cases af
   ·simp[Instr.checkKey,run_underlying an]
 ·rename_i a ex;cases hm:oK a ex with
  |false=>rw[hm] at h;cases h
  |true=>
   rw[hm] at h;cases h;obtain⟨s,rfl,bS⟩:=EL aJ hm;obtain⟨rfl,h2⟩:=hx.nY;rcases wa with⟨h,_⟩|⟨_,rfl⟩|⟨h,_⟩<;>first|(cases h;done)|skip
   have j0:=T6 (oG bS);refine⟨fun d ao=>?_,⟨_,an,.inr (.inl ⟨rfl,rfl⟩),?_⟩,fun af n=>?_,fun e d ao=>?_⟩
   ·simp[Op.equalIn,run_underlying an,j0]
   ·simp[Instr.sameNow,j0]
   ·cases af
   ·simp[Instr.checkKey,run_underlying an]
 ·cases h
theorem leafEqs_nil(l r:List AV):nf [] l r=match l,r with|[],[]=>some true|_,_=>none:=rfl
theorem leafEqs_cons(k:Nat)(ba:List Nat)(l r:List AV):nf (k::ba) l r=match l,r with
   |x::xs,y::aZ=>match leafEq k x y,nf ba xs aZ with|some a,some b=>some (a&&b)|_,_=>none
   |_,_=>none:=rfl
def Ks(P:Program)(i:Nat)(fs:List Field):Prop:=∀j (h:j<fs.length),(fs[j]).name≠ "_" ∧(fs[j]).offset=i+j∧shapeOf P (fs[j]).type=some none
theorem Be{t:TypeId}(hs:shapeOf P t=some none){arr:Array Value}{i:Nat}{u:Value}(hu:arr[i]? =some u)(w:World):(part t arr i).run P w= .ok u w:=by
 obtain⟨h1,_⟩:=jI hs w;simp[part,h1,hu]
theorem forIn_eq{d:Nat}:∀(fs:List Field) (i:Nat) (ba:List Nat) (l r:List AV) (us aX:Array Value) (res:Bool),Ks P i fs→mapOL (fun f=>leafKind P f.type) fs=some ba→
  bm w m O B l (us.toList.drop i)→bm w m O B r (aX.toList.drop i)→nf ba l r=some res→∀ao,
  (forIn fs ((none:Option Bool),()) (fun(f:Field) (_:Option Bool×Unit)=>
      if f.name= "_" then(pure (ForInStep.yield (none,())):Sem (ForInStep (Option Bool×Unit)))
      else do
       let a ←part f.type us f.offset
       let b ←part f.type aX f.offset
       let c ←Op.equalIn (d+1) f.type a b
       if c=false then pure (ForInStep.done (some false,())) else pure (ForInStep.yield (none,())))).run P ao= .ok (if res then(none,()) else(some false,())) ao
 |[],i,ba,l,r,us,aX,res,_,ax,au,af,h,ao=>by
  simp[mapOL] at ax;subst ax;rw[leafEqs_nil] at h;split at h<;>cases h;simp
 |f::fs,i,ba,l,r,us,aX,res,hf,ax,au,af,h,ao=>by
  rw[mapOL] at ax;split at ax<;>cases ax;rename_i k fL ld oR;rw[leafEqs_cons] at h;split at h<;>try (cases h;done)
  rename_i x xs y aZ;split at h<;>cases h;rename_i a b ha hb;obtain⟨h1,h2,h3⟩:=hf 0 (by simp);simp only[Ec,vA] at h1 h2 h3;obtain⟨u,hu,hE⟩:=au.get (i:=0) (v:=x) rfl;obtain⟨v,av,Kt⟩:=af.get (i:=0) (v:=y) rfl;rw[pG,vA,lB] at hu av;obtain⟨aE,_⟩:=v_ ld hE Kt ha;have p1:=Be h3 hu;have jL:=Be h3 av;have nj:bm w m O B xs (us.toList.drop (i+1)):=by
   have:=au.drop 1;simpa [q2] using this
  have n0:bm w m O B aZ (aX.toList.drop (i+1)):=by
   have:=af.drop 1;simpa [q2] using this
  have ay:=forIn_eq fs (i+1) fL xs aZ us aX b (fun j aB=>by
   have:=hf (j+1) (by simpa using aB);simp only[Ee] at this;exact⟨this.1,by rw[this.2.1];omega,this.2.2⟩) oR nj n0 hb ao (d:=d)
  rw[Ef];simp only[h1,if_false,er,h2,p1,jL,ez,aE];cases a with
  |false=>simp
  |true=>simpa using ay
theorem Uw{e:Bool}{d:Nat}:∀(fs:List Field) (i:Nat) (ba:List Nat) (l:List AV) (us:Array Value) (res:Bool),Ks P i fs→mapOL (fun f=>leafKind P f.type) fs=some ba→
  bm w m O B l (us.toList.drop i)→nf ba l l=some res→∀ao,
  (forIn fs PUnit.unit (fun(f:Field) (_:PUnit)=>
      if f.name≠ "_" then(do
       let a ←part f.type us f.offset
       Instr.checkKey e (d+1) f.type a
       pure (ForInStep.yield PUnit.unit):Sem (ForInStep PUnit))
      else pure (ForInStep.yield PUnit.unit))).run P ao= .ok PUnit.unit ao
 |[],i,ba,l,us,res,_,ax,au,h,ao=>by simp
 |f::fs,i,ba,l,us,res,hf,ax,au,h,ao=>by
  rw[mapOL] at ax;split at ax<;>cases ax;rename_i k fL ld oR;rw[leafEqs_cons] at h;cases l with
  |nil=>cases h
  |cons x xs=>
  simp only at h;split at h<;>cases h;rename_i a b ha hb;obtain⟨h1,h2,h3⟩:=hf 0 (by simp);simp only[Ec,vA] at h1 h2 h3;obtain⟨u,hu,hE⟩:=au.get (i:=0) (v:=x) rfl;rw[pG,vA,lB] at hu;obtain⟨_,_,_,aE⟩:=v_ ld hE hE ha;have p1:=Be h3 hu;have nj:bm w m O B xs (us.toList.drop (i+1)):=by
   have:=au.drop 1;simpa [q2] using this
  have ay:=Uw (e:=e) (d:=d) fs (i+1) fL xs us b (fun j aB=>by
   have:=hf (j+1) (by simpa using aB);simp only[Ee] at this;exact⟨this.1,by rw[this.2.1];omega,this.2.2⟩) oR nj hb ao
  rw[Ef];simp only[h1,ne_eq,not_false_eq_true,if_true,er,h2,p1,ez,aE,gX];exact ay
theorem Ux:∀ {ba:List Nat} {fs:List Field} {l r:List AV} {us aX:List Value},mapOL (fun f=>leafKind P f.type) fs=some ba→bm w m O B l us→bm w m O B r aX→nf ba l r=some true→∀n,
  us.length=aX.length∧(us.zip aX).all (fun(x,y)=>Instr.sameBits n x y)=true
 |[],fs,l,r,us,aX,ax,au,af,h,n=>by
  rw[leafEqs_nil] at h;split at h<;>cases h;have h1:=au.1;have h2:=af.1;simp at h1 h2;subst h1;subst h2;simp
 |k::ba,[],l,r,us,aX,ax,au,af,h,n=>by simp[mapOL] at ax
 |k::ba,f::fs,l,r,us,aX,ax,au,af,h,n=>by
  rw[mapOL] at ax;split at ax<;>cases ax;rename_i ld oR;rw[leafEqs_cons] at h;split at h<;>try (cases h;done)
  rename_i x xs y aZ;split at h<;>try (cases h;done)
  rename_i a b ha hb;simp only[ca,bT] at h;obtain⟨rfl,rfl⟩:=h;obtain⟨u,EZ,rfl⟩:∃u EZ,us=u::EZ:=by cases us with|nil=>have:=au.1;simp at this|cons u EZ=>exact⟨u,EZ,rfl⟩
  obtain⟨v,ra,rfl⟩:∃v ra,aX=v::ra:=by cases aX with|nil=>have:=af.1;simp at this|cons v ra=>exact⟨v,ra,rfl⟩
  have hu:aq w m O B x u:=au.2 0 (by simp) (by simp);have av:aq w m O B y v:=af.2 0 (by simp) (by simp);obtain⟨_,_,p3,_⟩:=v_ ld hu av ha;obtain⟨i1,i2⟩:=Ux oR (by simpa using au.drop 1) (by simpa using af.drop 1) hb n;exact⟨by simpa using i1,by simp only[Tu,kP,p3 rfl n,i2,Eg]⟩
theorem E0{t:TypeId}{ba:List Nat}(h:keyOk P t=some (.inr ba)):∃fs,P.underlying t=some (.struct fs)∧P.stoodInHeld t=false∧Ks P 0 fs.toList∧mapOL (fun f=>leafKind P f.type) fs.toList=some ba:=by
 unfold keyOk at h;split at h
 ·cases h
 ·split at h<;>try (cases h;done)
  rename_i fs hu;split at h<;>try (cases h;done)
  rename_i ab;simp only[bT,se,fI] at ab;cases hm:mapOL (fun f=>leafKind P f.type) fs.toList with
  |none=>simp[hm] at h
  |some fL=>
   simp[hm] at h;subst h;refine⟨fs,hu,ab.1,fun j aB=>?_,hm⟩;have:=ab.2 (fs.toList[j],j) (by rw[Eh];exact⟨j,by simpa using aB,by simp⟩);simp only[bT,decide_eq_true_eq] at this;exact⟨this.1.1,by rw[this.1.2];omega,this.2⟩
theorem E1{t:TypeId}{k:Nat}(h:keyOk P t=some (.inl k)):leafKind P t=some k:=by
 unfold keyOk at h;split at h
 ·cases h;assumption
 ·split at h<;>try (cases h;done)
  split at h
  ·rename_i fs _ _;cases hm:mapOL (fun f=>leafKind P f.type) fs.toList with
   |none=>simp[hm] at h
   |some fL=>simp[hm] at h
  ·cases h
theorem eqStruct_run{t:TypeId}{fs:Array Field}(hu:P.underlying t=some (.struct fs))(hs:P.stoodInHeld t=false)(D:Nat)(us aX:Array Value)(ao:World):
  (Op.equalIn (D+1) t (.agg us) (.agg aX)).run P ao=((forIn fs.toList ((none:Option Bool),()) (fun(f:Field) (_:Option Bool×Unit)=>
      if f.name= "_" then(pure (ForInStep.yield (none,())):Sem (ForInStep (Option Bool×Unit)))
      else do
       let a ←part f.type us f.offset
       let b ←part f.type aX f.offset
       let c ←Op.equalIn D f.type a b
       if c=false then pure (ForInStep.done (some false,())) else pure (ForInStep.yield (none,())))).run P ao).andThen (fun a ao=>Sem.run P (match a.fst with|some r=>pure r|none=>pure true) ao):=by
 simp only[Op.equalIn,er,run_underlying hu,ez];simp[hs]
 congr 1
 funext a bn
 obtain⟨a,_⟩:=a;cases a<;>rfl
theorem b9W{t:TypeId}{fs:Array Field}(hu:P.underlying t=some (.struct fs))(e:Bool)(D:Nat)(us:Array Value)(ao:World):
  (Instr.checkKey e (D+1) t (.agg us)).run P ao=((forIn fs.toList PUnit.unit (fun(f:Field) (_:PUnit)=>
      if f.name≠ "_" then(do
       let a ←part f.type us f.offset
       Instr.checkKey e D f.type a
       pure (ForInStep.yield PUnit.unit):Sem (ForInStep PUnit))
      else pure (ForInStep.yield PUnit.unit))).run P ao).andThen fun _ ao=>Sem.run P (pure ()) ao:=by
 simp only[Instr.checkKey,er,run_underlying hu,ez];rw[←Array.forIn_toList]
theorem E2{t:TypeId}{R:ja}(ax:keyOk P t=some R){x y:AV}{u v:Value}{r:Bool}(hx:aq w m O B x u)(aJ:aq w m O B y v)(h:keyEq R x y=some r):
  (∀ao,(Op.equal t u v).run P ao= .ok r ao)∧(r=true→Instr.sameBits 10000 u v=true):=by
 cases R with
 |inl k=>
  obtain⟨h1,_,h2,_⟩:=v_ (E1 ax) hx aJ h;exact⟨fun ao=>h1 9999 ao,fun af=>h2 af _⟩
 |inr ba=>
  obtain⟨fs,hu,hs,hf,hm⟩:=E0 ax;simp only[keyEq] at h;split at h<;>try (cases h;done)
  obtain⟨us,rfl,au,_⟩:=hx.oP;obtain⟨aX,rfl,af,_⟩:=aJ.oP;refine⟨fun ao=>?_,fun b9X=>?_⟩
  ·have key:∀d,(Op.equalIn (d+2) t (.agg us) (.agg aX)).run P ao= .ok r ao:=fun d=>by
    have:=forIn_eq (ao:=ao) (d:=d) fs.toList 0 ba _ _ us aX r hf hm (by simpa using au) (by simpa using af) h;rw[eqStruct_run hu hs (d+1),this];cases r<;>simp
   exact key 9998
  ·subst b9X;obtain⟨h1,h2⟩:=Ux (P:=P) hm au af h 9999;have key:∀n,Instr.sameBits (n+1) (.agg us) (.agg aX)=(us.size==aX.size&&(us.toList.zip aX.toList).all fun(x,y)=>Instr.sameBits n x y):=fun n=>rfl;rw[show(10000:Nat)=9999+1 from rfl,key,h2];simpa using h1
theorem Uy{t:TypeId}{R:ja}(ax:keyOk P t=some R){x:AV}{u:Value}{r:Bool}(hx:aq w m O B x u)(h:keyEq R x x=some r)(e:Bool)(ao:World):(Instr.checkKey e 10000 t u).run P ao= .ok () ao:=by
 cases R with
 |inl k=>
  obtain⟨_,_,_,h1⟩:=v_ (E1 ax) hx hx h;exact h1 e 9999 ao
 |inr ba=>
  obtain⟨fs,hu,hs,hf,hm⟩:=E0 ax;simp only[keyEq] at h;cases x<;>simp only[reduceCtorEq] at h;obtain⟨us,rfl,au,_⟩:=hx.oP;have key:∀d,(Instr.checkKey e (d+2) t (.agg us)).run P ao= .ok () ao:=fun d=>by
   have:=Uw (ao:=ao) (e:=e) (d:=d) fs.toList 0 ba _ us r hf hm (by simpa using au) h;rw[b9W hu e (d+1),this];rfl
  exact key 9998
theorem Uz{t:TypeId}{R:ja}(ax:keyOk P t=some R){x:AV}{u:Value}(hx:aq w m O B x u)(h:keySelf R x=true)(e:Bool)(ao:World):(Instr.checkKey e 10000 t u).run P ao= .ok () ao:=by
 unfold keySelf at h;split at h
 ·rename_i ex;obtain⟨d,an,wa⟩:=Kr (E1 ax);rcases wa with⟨h,_⟩|⟨_,rfl⟩|⟨h,_⟩<;>first|(cases h;done)|skip
  cases hx with
  | @fY _ _ _ _ s _=>
   have key:∀d,(Instr.checkKey e (d+1) t (.string s)).run P ao= .ok () ao:=fun d=>by simp[Instr.checkKey,run_underlying an]
   exact key 9999
 ·split at h
  ·rename_i af;exact Uy ax hx af e ao
  ·cases h
end
theorem UA{α β:Type}{r:α→β→Prop}:∀ {l:List α} {dF:List β},dF.length=l.length→(∀i (h:i<l.length) (h':i<dF.length),r (l[i]) (dF[i]))→iA r l dF
 |[],[],_,_=>trivial
 |[],_::_,h,_=>by simp at h
 |_::_,[],h,_=>by simp at h
 |x::xs,y::aZ,h,af=>⟨af 0 (by simp) (by simp),UA (by simpa using h) (fun i a b=>af (i+1) (by simpa using a) (by simpa using b))⟩
theorem wb{α β:Type}{r:α→β→Prop}:∀ {l:List α} {dF:List β},iA r l dF→dF.length=l.length
 |[],[],_=>rfl
 |[],_::_,h=>h.elim
 |_::_,[],h=>h.elim
 |_::_,_::_,h=>by simp[wb h.2]
theorem wc{α β:Type}{r:α→β→Prop}:∀ {l:List α} {dF:List β},iA r l dF→∀i (h:i<l.length) (h':i<dF.length),r (l[i]) (dF[i])
 |[],[],_,i,h,_=>by simp at h
 |[],_::_,h,_,_,_=>h.elim
 |_::_,[],h,_,_,_=>h.elim
 |_::_,_::_,h,i,h1,h2=>by
  cases i with
  |zero=>exact h.1
  |succ i=>exact wc h.2 i (by simpa using h1) (by simpa using h2)
abbrev j2:=AV×AV×Nat
def oW(R:ja)(k:AV):List j2→Option Nat→Prop
 |[],none=>True
 |[],some _=>False
 |e::_,some 0=>keyEq R k e.1=some true
 |e::es,some (i+1)=>keyEq R k e.1=some false∧oW R k es (some i)
 |e::es,none=>keyEq R k e.1=some false∧oW R k es none
theorem b9Y(R:ja)(k:AV):nP R k []=some none:=rfl
theorem findE_cons(R:ja)(k:AV)(e:j2)(es:List j2):nP R k (e::es)=match keyEq R k e.1 with|none=>none|some true=>some (some e.2.1)|some false=>nP R k es:=rfl
theorem b9Z(R:ja)(k v:AV):oL R k v []=some none:=rfl
theorem updE_cons(R:ja)(k v:AV)(e:j2)(es:List j2):oL R k v (e::es)=match keyEq R k e.1 with
  |none=>none
  |some true=>some (some ((k,v,e.2.2)::es))
  |some false=>match oL R k v es with|none=>none|some none=>some none|some (some es)=>some (some (e::es)):=rfl
theorem Ku{R:ja}{k:AV}:∀ {es:List j2} {r:Option AV},nP R k es=some r→(r=none∧oW R k es none)∨∃i e,oW R k es (some i)∧es[i]? =some e∧r=some e.2.1
 |[],r,h=>by rw[b9Y] at h;cases h;exact .inl ⟨rfl,trivial⟩
 |e::es,r,h=>by
  rw[findE_cons] at h;split at h
  ·cases h
  ·rename_i ax;cases h;exact .inr ⟨0,e,ax,rfl,rfl⟩
  ·rename_i ax;rcases Ku h with⟨h1,h2⟩|⟨i,eQ,h1,h2,h3⟩
   ·exact .inl ⟨h1,ax,h2⟩
   ·exact .inr ⟨i+1,eQ,⟨ax,h1⟩,by simpa using h2,h3⟩
theorem Kv{R:ja}{k v:AV}:∀ {es:List j2} {r:Option (List j2)},oL R k v es=some r→(r=none∧oW R k es none)∨∃i e,oW R k es (some i)∧es[i]? =some e∧r=some (es.set i (k,v,e.2.2))
 |[],r,h=>by rw[b9Z] at h;cases h;exact .inl ⟨rfl,trivial⟩
 |e::es,r,h=>by
  rw[updE_cons] at h;split at h
  ·cases h
  ·rename_i ax;cases h;exact .inr ⟨0,e,ax,rfl,rfl⟩
  ·rename_i ax;split at h<;>cases h
   ·rename_i hu;rcases Kv hu with⟨h1,h2⟩|⟨i,eQ,h1,h2,h3⟩
    ·exact .inl ⟨rfl,ax,h2⟩
    ·cases h3
   ·rename_i c0a hu;rcases Kv hu with⟨h1,h2⟩|⟨i,eQ,h1,h2,h3⟩
    ·cases h1
    ·cases h3;exact .inr ⟨i+1,eQ,⟨ax,h1⟩,by simpa using h2,rfl⟩
theorem UB{k:Nat}{x y:AV}(h:leafEq k x y=some true):leafEq k y x=some true:=by
 unfold leafEq at h;split at h
 ·split at h<;>simp at h;rename_i e;subst e;subst h;simp[leafEq]
 ·simp only[ca,kU] at h;subst h;simp[leafEq,(kU _ _).2 rfl]
 ·simp at h;subst h;simp[leafEq]
 ·rename_i ex b;cases hm:oK b ex<;>rw[hm] at h<;>cases h
 ·rename_i a ex;cases hm:oK a ex<;>rw[hm] at h<;>cases h
 ·cases h
theorem UC:∀ {ba:List Nat} {x y:List AV},nf ba x y=some true→nf ba y x=some true
 |[],x,y,h=>by
  rw[leafEqs_nil] at h ⊢;split at h<;>cases h;rfl
 |k::ba,x,y,h=>by
  rw[leafEqs_cons] at h ⊢;split at h<;>try (cases h;done)
  split at h<;>try (cases h;done)
  rename_i ha hb;simp only[ca,bT] at h;obtain⟨rfl,rfl⟩:=h;simp only[UB ha,UC hb,Eg]
theorem c0b{R:ja}{x y:AV}(h:keyEq R x y=some true):keyEq R y x=some true:=by
 cases R with
 |inl k=>exact UB h
 |inr ba=>
  simp only[keyEq] at h ⊢;split at h<;>try (cases h;done)
  exact UC h
section
variable {P:Program}{w:World}{m:Nat→Option Nat}{O:Nat→Prop}{B:Nat}
def sw(w:World)(m:Nat→Option Nat)(O:Nat→Prop)(B:Nat)(e:j2)(eQ:MapEntry):Prop:=aq w m O B e.1 eQ.key∧aq w m O B e.2.1 eQ.val∧eQ.born=e.2.2
def got(q:Option Nat)(n:Nat)(db:List MapEntry):Option (Nat×Value):=match q with|none=>none|some i=>match db[i]? with|some e=>some (i+n,e.val)|none=>none
theorem Kw{t:TypeId}{R:ja}(ax:keyOk P t=some R){k:AV}{u:Value}(hu:aq w m O B k u):∀ {es:List j2} {db:List MapEntry} {q:Option Nat} (n:Nat),iA (sw w m O B) es db→oW R k es q→∀ao,
  (Instr.findAsking t u db n).run P ao= .ok (got q n db) ao
 |[],[],q,n,_,h,ao=>by
  cases q with
  |none=>simp[Instr.findAsking,got]
  |some i=>exact h.elim
 |[],_::_,_,_,h,_,_=>h.elim
 |_::_,[],_,_,h,_,_=>h.elim
 |e::es,eQ::db,q,n,af,h,ao=>by
  cases q with
  |none=>
   obtain⟨h1,h2⟩:=h;have:=(E2 ax hu af.1.1 h1).1 ao;have ay:=Kw ax hu (n+1) af.2 h2 ao;simp[Instr.findAsking,this,ay,got]
  |some i=>
   cases i with
   |zero=>
    have:=(E2 ax hu af.1.1 h).1 ao;simp[Instr.findAsking,this,got]
   |succ i=>
    obtain⟨h1,h2⟩:=h;have:=(E2 ax hu af.1.1 h1).1 ao;have ay:=Kw ax hu (n+1) af.2 h2 ao;simp only[Instr.findAsking,er,this,ez,oH,if_false,ay,got,AJ];cases db[i]? <;>simp;omega
theorem Kx{t:TypeId}{nk:Nat}{d:TypeDesc}(an:P.underlying t=some d)(ax:leafKind P t=some nk){k:AV}{u:Value}(hu:aq w m O B k u):∀ {es:List j2} {db:List MapEntry} {q:Option Nat} (n:Nat),iA (sw w m O B) es db→oW (.inl nk) k es q→
  Instr.findNow d u db n=some (got q n db)
 |[],[],q,n,_,h=>by
  cases q with
  |none=>simp[Instr.findNow,got]
  |some i=>exact h.elim
 |[],_::_,_,_,h,_=>h.elim
 |_::_,[],_,_,h,_=>h.elim
 |e::es,eQ::db,q,n,af,h=>by
  have same:∀ {r},keyEq (.inl nk) k e.1=some r→Instr.sameNow d u eQ.key=some r:=fun {r} hh=>by
   obtain⟨_,⟨e5,h1,_,h2⟩,_⟩:=v_ ax hu af.1.1 hh;rw[an] at h1;cases h1;exact h2
  cases q with
  |none=>
   obtain⟨h1,h2⟩:=h;have:=same h1;have ay:=Kx an ax hu (n+1) af.2 h2;simp[Instr.findNow,this,ay,got]
  |some i=>
   cases i with
   |zero=>
    have:=same h;simp[Instr.findNow,this,got]
   |succ i=>
    obtain⟨h1,h2⟩:=h;have:=same h1;have ay:=Kx an ax hu (n+1) af.2 h2;simp only[Instr.findNow,this,ay,got,AJ];cases db[i]? <;>simp;omega
theorem c0c{fs:Array Field}{u:Value}(e:MapEntry)(es:List MapEntry)(n:Nat):Instr.findNow (.struct fs) u (e::es) n=none:=by
 simp[Instr.findNow,Instr.sameNow]
theorem Bf{t:TypeId}{R:ja}(ax:keyOk P t=some R){k:AV}{u:Value}(hu:aq w m O B k u){es:List j2}{db:List MapEntry}{q:Option Nat}(af:iA (sw w m O B) es db)(h:oW R k es q)(ao:World):
  (Instr.findKey t u db).run P ao= .ok (got q 0 db) ao:=by
 cases R with
 |inl nk=>
  have au:=E1 ax;obtain⟨d,an,_⟩:=Kr au;have:=Kx an au hu 0 af h;simp[Instr.findKey,run_underlying an,this]
 |inr ba=>
  obtain⟨fs,an,_⟩:=E0 ax;simp only[Instr.findKey,er,run_underlying an,ez];cases db with
  |nil=>
   have c0d:es=[]:=nc (by have:=wb af;simpa using this.symm);subst c0d;cases q with
   |none=>simp[Instr.findNow,got]
   |some i=>exact h.elim
  |cons eQ db=>
   rw[c0c];exact Kw ax hu 0 af h ao
theorem oW.lt{R:ja}{k:AV}:∀ {es:List j2} {i:Nat},oW R k es (some i)→∃e,es[i]? =some e∧keyEq R k e.1=some true
 |[],i,h=>h.elim
 |e::es,0,h=>⟨e,rfl,h⟩
 |e::es,i+1,h=>by
  obtain⟨eQ,h1,h2⟩:=oW.lt h.2;exact⟨eQ,by simpa using h1,h2⟩
end
section
variable {P:Program}{o:ad}{w:World}{m:Nat→Option Nat}{B:Nat}{f:Nat}
theorem Rel.Bg(af:Rel P o w m B){id ar:Nat}{es:List j2}{cl:Nat}(hm:m id=some ar)(hg:o.get id=some (.map es cl)):
  ∃db:Array MapEntry,w.heap[ar]? =some (.map db cl)∧iA (sw w m (a_ o m) B) es db.toList:=by
 obtain⟨bE,h1,h2⟩:=af.obj id ar _ hm hg rfl;cases h2 with
 | @map _ db _ au gC=>
  refine⟨db,h1,UA (by simpa using au) (fun i a b=>?_)⟩;have:=gC i a (by simpa using b);exact⟨by simpa using this.1,by simpa using this.2.1,by simpa using this.2.2⟩
theorem vW{O:Nat→Prop}{a:AV}{u:Value}(two c:Bool)(h:aq w m O B a u):aq w m O B (v2 two a c) (if two then .tuple #[u,.bool c] else u):=by
 cases two with
 |false=>exact h
 |true=>exact aq.sm (bm.cons h (bm.cons (.b c) bm.nil))
theorem c0e(af:Rel P o w m B){t lH e:TypeId}(ht:P.underlying t=some (.map lH e)){R:ja}(ax:keyOk P lH=some R){z:AV}(bw:zeroOf P e=some z)(two:Bool){x k v:AV}{u oX:Value}
  (hx:aq w m (a_ o m) B x u) (oY:aq w m (a_ o m) B k oX)
  (h:lookupA o R x k z two=some v):∃bL,(Instr.lookup t u oX two).run P w= .ok bL w∧aq w m (a_ o m) B v bL:=by
 obtain⟨ej,hP,lK,_⟩:=pW bw w;have lL:=lK w m (a_ o m) B;unfold lookupA at h;cases mM:keySelf R k with
 |false=>simp[mM] at h
 |true=>
  simp only[mM,cond_true] at h;split at h
  ·cases h;cases hx;have ab:=Uz ax oY mM true w;have hf:=Bf (P:=P) (es:=[]) (db:=[]) (q:=none) (w:=w) (m:=m) (O:=a_ o m) (B:=B) ax oY trivial trivial w;refine⟨_,?_,vW two false lL⟩;simp[Instr.lookup,run_underlying ht,ab,hf,got,hP]
  ·rename_i id;obtain⟨ar,hm,rfl⟩:=hx.EK;split at h<;>try (cases h;done)
   rename_i es cl hg;obtain⟨db,hh,hall⟩:=af.Bg hm hg;have we:=EW (P:=P) (w:=w) hh (fun _ _ _ h=>by cases h);have ab:=Uz ax oY mM db.isEmpty w;split at h<;>cases h
   ·rename_i bJ Ky;rcases Ku Ky with⟨h1,_⟩|⟨i,x8,h1,h2,h3⟩
    ·cases h1
    ·cases h3;obtain⟨hi,dc⟩:=mG.1 h2;have hlen:=wb hall;have je:i<db.toList.length:=by omega
     have rl:=wc hall i hi je;rw[dc] at rl;have hf:=Bf (P:=P) ax oY hall h1 w;have Kz:got (some i) 0 db.toList=some (i,db.toList[i].val):=by simp[got,cS je]
     rw[Kz] at hf;refine⟨_,?_,vW two true rl.2.1⟩;simp only[Instr.lookup,er,run_underlying ht,ez,we,gX,ab,hf]
   ·rename_i Ky;rcases Ku Ky with⟨_,h1⟩|⟨i,x8,h1,h2,h3⟩
    ·have hf:=Bf (P:=P) ax oY hall h1 w;rw[show got none 0 db.toList=none from rfl] at hf;refine⟨_,?_,vW two false lL⟩;simp only[Instr.lookup,er,run_underlying ht,ez,we,gX,ab,hf,hP]
    ·cases h3
  ·cases h
theorem UD(af:Rel P o w m B){t lH e:TypeId}(ht:P.underlying t=some (.map lH e)){R:ja}(ax:keyOk P lH=some R){id ar:Nat}{es:List j2}{cl:Nat}(eF:f≤id)(hm:m id=some ar)(hg:o.get id=some (.map es cl)){k v:AV}{oX x9:Value}
  (oY:aq w m (a_ o m) B k oX) (UE:aq w m (a_ o m) B v x9) {UF:Bool} (mM:keyEq R k k=some UF) {r:Option (List j2)} (hu:oL R k v es=some r):
  ∃ao,(Instr.mapUpdate t (.map (some ar)) oX x9).run P w= .ok () ao∧
   Rel P (o.set id (match r with|some es=>.map es cl|none=>.map (es++[(k,v,cl)]) (cl+1))) ao m B∧Ext f o w m (o.set id (match r with|some es=>.map es cl|none=>.map (es++[(k,v,cl)]) (cl+1))) ao m:=by
 obtain⟨db,hh,hall⟩:=af.Bg hm hg;have hlen:=wb hall;simp only[qZ] at hlen;have we:=EW (P:=P) (w:=w) hh (fun _ _ _ h=>by cases h);have ab:=Uy ax oY mM false w;have hb:=vP hh;have c7:∀(I:AO) (bE:Obj),kS P w m (a_ o m) B I bE→bsz w ar=none→I.isDead=false→
   Rel P (o.set id I) {w with heap:=w.heap.setIfInBounds ar bE} m B∧Ext f o w m (o.set id I) {w with heap:=w.heap.setIfInBounds ar bE} m:=fun I bE aj fU an=>
  af.c7 eF hm ⟨_,hg,rfl⟩ {w with heap:=w.heap.setIfInBounds ar bE} I (by simp) (fun b bS=>by simp[Jx (oG bS)]) (fun n hn=>by rw[fU] at hn;cases hn) rfl rfl rfl (fun _=>⟨bE,by simp[hb],aj⟩)
 have fU:bsz w ar=none:=by unfold bsz;rw[hh]
 rcases Kv hu with⟨rfl,p4⟩|⟨i,x8,p4,hi,rfl⟩
 ·have hf:=Bf (P:=P) ax oY hall p4 w;rw[show got none 0 db.toList=none from rfl] at hf;refine⟨{w with heap:=w.heap.setIfInBounds ar (.map (db.push {key:=oX,val:=x9,born:=cl}) (cl+1))},?_,c7 _ _ ?_ fU rfl⟩
  ·simp only[Instr.mapUpdate,er,run_underlying ht,ez,we,ab,hf];exact Ut _ hh (fun _ _ _ h=>by cases h)
  ·refine .map (by simp[hlen]) (fun j h1 h2=>?_);by_cases aB:j<es.length
   ·have:=wc hall j aB (by simp;omega);rw[AK aB,Array.getElem_push_lt (by omega)];simpa [sw] using this
   ·have fK:j=es.length:=by simp at h1;omega
    subst fK;have:(db.push {key:=oX,val:=x9,born:=cl})[es.length]'h2={key:=oX,val:=x9,born:=cl}:=by
     simp only[←hlen,Array.getElem_push_eq]
    rw[this];simp only[AL (bK _),Ei,Ec];exact⟨oY,UE,trivial⟩
 ·have hf:=Bf (P:=P) ax oY hall p4 w;obtain⟨lh,dc⟩:=mG.1 hi;have je:i<db.toList.length:=by simp;omega
  have c0f:i<db.size:=by simpa using je
  have rl:=wc hall i lh je;rw[dc] at rl;have Kz:got (some i) 0 db.toList=some (i,db.toList[i].val):=by simp[got,cS je]
  rw[Kz] at hf;obtain⟨aY,kD,c0g⟩:=p4.lt;rw[hi] at kD;cases kD;have rb:=(E2 ax rl.1 oY (r:=true) (by
   exact c0b c0g)).2 rfl
  have dd:db[i]? =some db[i]:=l_ c0f;refine⟨{w with heap:=w.heap.setIfInBounds ar (.map (db.modify i fun e=>{e with key:=oX,val:=x9}) cl)},?_,c7 _ _ ?_ fU rfl⟩
  ·simp only[Instr.mapUpdate,er,run_underlying ht,ez,we,ab,hf,dd,AP,Option.getD_some];have c0h:Instr.sameBits 10000 db[i].key oX=true:=by simpa using rb
   have rm:(Instr.keyThatStays db[i].key oX).run P w= .ok oX w:=by simp only[Instr.keyThatStays,c0h,if_true,gX]
   simp only[rm,ez];exact Ut _ hh (fun _ _ _ h=>by cases h)
  ·refine .map (by simp[hlen]) (fun j h1 h2=>?_);simp only[JH] at h1;have aB:=wc hall j h1 (by simp;omega);rw[Ej,Array.getElem_modify];by_cases UG:i=j
   ·subst UG;simp only[if_true];refine⟨oY,UE,?_⟩;have:=rl.2.2;simpa using this
   ·simp only[if_neg UG];simpa [sw] using aB
end
end
section
variable [Tok]
open Go.RowKit
open Go.ChangeMaps (setBlock)
section
variable {P:Program}{o:ad}{w:World}{m:Nat→Option Nat}{B f:Nat}
theorem c0i(s:ByteArray){c:Nat}(h:s.size≤c):(bytesRow s c).size=c:=by
 have:s.data.size=s.size:=rfl;simp[bytesRow,this];omega
theorem c0j{l:List Nat}(au:∀c∈l,c<256){c:Nat}(i:Nat)(h:i<l.length):(bytesRow (strOf l) c)[i]? =some (.int .u8 (Int.ofNat l[i])):=by
 have ab:l[i]<256:=au _ (cB h);unfold bytesRow;rw[Array.getElem?_append_left (by simp[strOf];exact h)];simp[strOf,h];omega
theorem c0k(af:Rel P o w m B)(f:Nat){s d e:TypeId}(hs:P.underlying s=some .string)(an:P.underlying d=some (.slice e))(he:P.underlying e=some (.int .u8)){l:List Nat}{u:Value}(hx:aq w m (a_ o m) B (.s l) u):
  ∃bL ao aG,(convert s d u).run P w= .ok bL ao∧aq ao aG (a_ (o.push (.cells (l.map fun c=>AV.i .u8 (Int.ofNat c)))) aG) B (.al o.next 0 l.length none none) bL∧Rel P (o.push (.cells (l.map fun c=>AV.i .u8 (Int.ofNat c)))) ao aG B∧Ext f o w m (o.push (.cells (l.map fun c=>AV.i .u8 (Int.ofNat c)))) ao aG:=by
 obtain⟨rfl,au⟩:=hx.nY;have bZ:(strOf l).size=l.length:=tH l;have jd:=grownCap_ge w (strOf l).size 0 e;have bX:=run_bytes_of_string (P:=P) w s d e (strOf l) hs an he;obtain⟨cap,p2⟩:∃cap,cap=grownCap w (strOf l).size 0 e:=⟨_,rfl⟩
 rw[←p2] at jd bX;have ss:=c0i (strOf l) jd;obtain⟨h1,h2⟩:=af.alloc f (w.drew.alloc (.cells (bytesRow (strOf l) cap) e ((bytesRow (strOf l) cap).size,(bytesRow (strOf l) cap).size+1))) (.cells (l.map fun c=>AV.i .u8 (Int.ofNat c))) _ rfl rfl rfl rfl rfl
  (.cells (by rw[ss,dO];omega) (fun i h h'=>by
   simp only[dO] at h;have h3:=c0j au (c:=cap) i h;rw[l_ h'] at h3;rw[ma,xG h3];exact .i _ _) (fun i hi=>by
    have:¬(bytesRow (strOf l) cap).size≤i:=by omega
    simp[this]) (fun x hx=>by obtain⟨c,_,rfl⟩:=fq.1 hx;rfl))
 refine⟨_,_,_,bX,?_,h1,h2⟩;rw[bZ];refine .al (gK _ _ _) (by omega) (fun c ab=>by cases ab) (n:=(bytesRow (strOf l) cap).size) ?_ (by rw[ss];simp[shN]) (fun _=>by rw[ss];simp[shN]);have:(w.drew.alloc (.cells (bytesRow (strOf l) cap) e ((bytesRow (strOf l) cap).size,(bytesRow (strOf l) cap).size+1))).heap[w.heap.size]? =some (.cells (bytesRow (strOf l) cap) e ((bytesRow (strOf l) cap).size,(bytesRow (strOf l) cap).size+1)):=heap_alloc_new w.drew _;unfold bsz;rw[this]
theorem KA{x:AV}{n:Nat}(h:byteOf x=some n):x= .i .u8 (Int.ofNat n)∧n<256:=by
 unfold byteOf at h;split at h
 ·rename_i k;cases hb:Nat.blt k 256 with
  |false=>rw[hb] at h;cases h
  |true=>rw[hb] at h;cases h;exact⟨rfl,by simpa [fX] using hb⟩
 ·cases h
theorem c0l(af:Rel P o w m B){s d e:TypeId}(hs:P.underlying s=some (.slice e))(he:P.underlying e=some (.int .u8))(an:P.underlying d=some .string){x:AV}{xs:List AV}{l:List Nat}{u:Value}(hx:aq w m (a_ o m) B x u)(h:readList o x=some xs)(hb:mapO byteOf xs=some l):
  (convert s d u).run P w= .ok (.string (strOf l)) w∧∀c∈l,c<256:=by
 obtain⟨hlen,dd⟩:=nT hb;have dC:xs=l.map fun c=>AV.i .u8 (Int.ofNat c):=by
  apply List.ext_getElem
  ·simp[hlen]
  ·intro i h1 h2;have:=(KA (dd i h1 (by omega))).1;simp[this]
 have bu:∀c∈l,c<256:=fun c ab=>by
  obtain⟨i,hi,rfl⟩:=k8 ab;exact(KA (dd i (by omega) hi)).2
 refine⟨?_,bu⟩;obtain⟨base,c,us,rfl,hle,b9,x_,mJ,E3⟩:=Ba (R:=none) af hx h (fun a ha=>by rw[dC] at ha;obtain⟨c,_,rfl⟩:=fq.1 ha;rfl);cases base with
 |none=>
  obtain⟨h0,_⟩:=E3;have:l=[]:=by
   have:=congrArg List.length h0;simp[dC] at this;exact this
  subst this;rw[run_convert_bytes_string w s d e _ _ _ hs he an];simp[Conv.bytesToString,strOf];rfl
 |some a=>
  obtain⟨c0m,sx,c0n⟩:=E3;clear c0n;have x4:xs.flatMap AV.cells=xs:=by
   have h1:∀y∈xs,AV.cells y=[y]:=fun y aJ=>by rw[dC] at aJ;obtain⟨c,_,rfl⟩:=fq.1 aJ;rfl
   clear b9 x_ mJ hle dC h hb hlen dd hx c0m
   induction xs with
   |nil=>rfl
   |cons y aZ ay=>rw[mb,h1 y (by simp),ay (fun z bw=>h1 z (by simp[bw]))];rfl
  have key:=run_convert_bytes_back (P:=P) w s d e a c (l.map Nat.toUInt8) hs he an (fun j aB=>by
   simp only[dO] at aB;have UH:j<us.length:=by rw[x_];simp[shN];omega
   rw[x4] at b9;have h1:=b9.2 j (by omega) UH;have h2:xs[j]'(by omega)=AV.i .u8 (Int.ofNat l[j]):=(KA (dd j (by omega) aB)).1;rw[h2] at h1;have h3:=h1.kB;have aN:=sx j us[j] (cS UH);rw[aN,h3];have ab:l[j]<256:=bu _ (cB aB);simp;omega)
  have aE:xs.length=(l.map Nat.toUInt8).length:=by simp[hlen]
  rw[aE,key];rfl
theorem c0o(af:Rel P o w m B)(f:Nat){t e:TypeId}{R:Option Nat}(ht:P.underlying t=some (.slice e))(hs:shapeOf P e=some R){i:TypeInfo}(hi:P.info? e=some i){z:AV}(bw:zeroOf P e=some z)(tL:z.cells.length=shN R){n c:Nat}{UI UJ:IntKind}(c0p:n≤c)(hb:i.bytes*c≤281474976710656)(ab:c≤281474976710656):
  ∃bL ao aG,(Instr.makeSlice t (.int UI (Int.ofNat n)) (.int UJ (Int.ofNat c))).run P w= .ok bL ao∧aq ao aG (a_ (o.push (.cells (hN c z.cells))) aG) B (.al o.next 0 n R (some c)) bL∧Rel P (o.push (.cells (hN c z.cells))) ao aG B∧Ext f o w m (o.push (.cells (hN c z.cells))) ao aG:=by
 obtain⟨_,bZ,_⟩:=jI hs w;have UK:i.size=shN R:=by
  have h1:=bZ;simp[sizeOf,typeInfo,hi] at h1;exact h1
 obtain⟨ej,hP,lK,lL⟩:=pW bw w;have wg:i.zero=some ej:=by
  simp[zeroValue,typeInfo,hi] at hP;cases aI:i.zero with
  |none=>simp[aI] at hP
  |some q=>simp[aI] at hP;rw[hP]
 have mK:=(lK w m (a_ o m) B).cells;have kW:ej.cells.size=shN R:=by have:=mK.1;simp at this;omega
 have bX:=run_make (P:=P) w t e i ej ht hi wg UI UJ (Int.ofNat n) (Int.ofNat c) (vC _) (by show(n:Int)≤c;omega) (by
                                                                         show(i.bytes:Int)*(c:Int)≤_;have:((i.bytes*c:Nat):Int)≤281474976710656:=by omega
                                                                         rwa[Int.natCast_mul] at this) (by show(c:Int)≤_;omega)
 have eG:(Int.ofNat c).toNat=c:=rfl;have aE:(Int.ofNat n).toNat=n:=rfl;rw[eG,aE,UK] at bX;have mL:=x0 mK c;have tM:ej.cells.toList.length=shN R:=by simp[kW]
 rw[tM] at mL;have lJ:(madeCells ej.cells (c*shN R)).toList=(List.range (c*shN R)).map fun i=>ej.cells.toList[i%shN R]! :=by
  unfold madeCells;rw[sc,vF];apply pF;intro a _;rw[kW,JF,oI];simp
 rw[←lJ] at mL;have x2:(madeCells ej.cells (c*shN R)).size=c*shN R:=size_madeCells _ _;obtain⟨ao,aG,r1,jJ,km,pU,A_⟩:=EJ af f (el:=e) mL (x1 lL c);have c0q:ao=w.alloc (.cells (madeCells ej.cells (c*shN R)) e):=by
  have h1:(newRow e (madeCells ej.cells (c*shN R))).run P w= .ok ⟨w.heap.size,0,none⟩ {w with heap:=w.heap.push (.cells (madeCells ej.cells (c*shN R)) e)}:=by simp[newRow]
  rw[h1] at r1;cases r1;rfl
 subst c0q;exact⟨_,_,aG,bX,.al jJ c0p (fun bR sy=>by cases sy;rfl) (n:=(madeCells ej.cells (c*shN R)).size) (by unfold bsz;rw[km]) (by rw[x2];omega) (fun h=>by cases h),pU,A_⟩
theorem c0r(af:Rel P o w m B)(f:Nat){t KB ty e:TypeId}{R:Option Nat}{cx UL:IntKind}(ht:P.underlying t=some (.slice e))(c0s:P.underlying KB=some (.int cx))(hs:shapeOf P e=some R){i:TypeInfo}(hi:P.info? e=some i){z:AV}(bw:zeroOf P e=some z)(tL:z.cells.length=shN R)(oS:i.bytes≠0)(d5P:0<shN R){k:Nat}(h0:0<k)(hb:(3*k+2000)*i.bytes≤281474976710656):
  ∃bL ao aG,(Builtin.append_ #[t,KB] ty #[.slice none 0 0,.int UL (Int.ofNat k)]).run P w= .ok bL ao∧aq ao aG (a_ (o.push (.cells (hN k z.cells))) aG) B (.al o.next 0 k R none) bL∧Rel P (o.push (.cells (hN k z.cells))) ao aG B∧Ext f o w m (o.push (.cells (hN k z.cells))) ao aG:=by
 obtain⟨_,bZ,_⟩:=jI hs w;have UK:i.size=shN R:=by
  have h1:=bZ;simp[sizeOf,typeInfo,hi] at h1;exact h1
 obtain⟨ej,hP,lK,lL⟩:=pW bw w;have wg:i.zero=some ej:=by
  simp[zeroValue,typeInfo,hi] at hP;cases aI:i.zero with
  |none=>simp[aI] at hP
  |some q=>simp[aI] at hP;rw[hP]
 have mK:=(lK w m (a_ o m) B).cells;have kW:ej.cells.size=shN R:=by have:=mK.1;simp at this;omega
 have p3:1≤i.bytes:=Tp.2 oS;have vV:(3*k+2000)*1≤(3*k+2000)*i.bytes:=Tq _ p3;have tO:k*i.bytes≤(3*k+2000)*i.bytes:=pI _ (by omega);have bX:=Lib.run_append_nil_zeros (P:=P) w t KB ty e i ej UL cx ht c0s hi wg k h0 (by omega) (by omega) (by omega);have jd:=grownCap_ge w k 0 e;have mL:=x0 mK k;have tM:ej.cells.toList.length=shN R:=by simp[kW]
 have hh:(Builtin.zeroCells ej.cells k).toList=(List.range (k*ej.cells.toList.length)).map fun i=>ej.cells.toList[i%ej.cells.toList.length]! :=by
  simp only[Builtin.zeroCells,sc,vF,qZ];exact pF fun i _=>by simp only[getElem!_def,lB]
 rw[←hh] at mL;have x2:(Builtin.zeroCells ej.cells k).size=k*shN R:=by rw[size_zeroCells,kW]
 have ss:(Builtin.zeroCells ej.cells k++Builtin.zeroCells ej.cells (grownCap w k 0 e-k)).size=grownCap w k 0 e*shN R:=by
  rw[Tr,size_zeroCells,size_zeroCells,kW,← jV]
  congr 1;omega
 have tR:(hN k z.cells).length=k*shN R:=by have:=mL.1;rw[qZ,x2] at this;omega
 obtain⟨h1,h2⟩:=af.alloc f (w.drew.alloc (.cells (Builtin.zeroCells ej.cells k++Builtin.zeroCells ej.cells (grownCap w k 0 e-k)) e)) (.cells (hN k z.cells)) _ rfl rfl rfl rfl rfl
  (.cells (by rw[ss,tR];exact pI _ jd) (fun j h h'=>by
   have aB:j<(Builtin.zeroCells ej.cells k).size:=by omega
   have:=mL.2 j h (by simpa using aB);rw[Tt aB];simpa using this) (fun j _=>by simp) (x1 lL k))
 refine⟨_,_,_,bX,.al (gK _ _ _) jd (fun c ab=>by cases ab) (n:=grownCap w k 0 e*shN R) ?_ (by omega) (fun _=>by omega),h1,h2⟩;have:(w.drew.alloc (.cells (Builtin.zeroCells ej.cells k++Builtin.zeroCells ej.cells (grownCap w k 0 e-k)) e)).heap[w.heap.size]? =some (.cells (Builtin.zeroCells ej.cells k++Builtin.zeroCells ej.cells (grownCap w k 0 e-k)) e):=by
  exact heap_alloc_new w.drew _
 unfold bsz;rw[this];simp only[ss]
theorem Rel.c0t(af:Rel P o w m B){id ar since gB:Nat}{seen:List Nat}(hm:m id=some ar)(hg:o.get id=some (.mapIter none since seen gB)):w.heap[ar]? =some (.mapIter none since seen.toArray gB):=by
 obtain⟨bE,h1,h2⟩:=af.obj _ _ _ hm hg rfl;cases h2 with
 | @mapIter _ b _ _ _ hb=>
  cases b with
  |none=>exact h1
  |some b=>exact hb.elim
theorem Rel.UM(af:Rel P o w m B){id ar i since gB:Nat}{seen:List Nat}(hm:m id=some ar)(hg:o.get id=some (.mapIter (some i) since seen gB)):∃b,w.heap[ar]? =some (.mapIter (some b) since seen.toArray gB)∧m i=some b:=by
 obtain⟨bE,h1,h2⟩:=af.obj _ _ _ hm hg rfl;cases h2 with
 | @mapIter _ b _ _ _ hb=>
  cases b with
  |none=>exact hb.elim
  |some b=>exact⟨b,h1,hb⟩
theorem run_getObj_map{ar:Nat}{es:Array MapEntry}{cl:Nat}(h:w.heap[ar]? =some (.map es cl)):(getObj ar).run P w= .ok (.map es cl) w:=
 EW (P:=P) (w:=w) h (fun _ _ _ h=>by cases h)
theorem UN(I:Obj)(w:World):(newObj I).run P w= .ok w.heap.size (w.alloc I):=rfl
theorem UO(af:Rel P o w m B)(f:Nat){t k e:TypeId}(ht:P.underlying t=some (.map k e)){r:Option Nat}{u:Value}(hx:aq w m (a_ o m) B (.m r) u){I:AO}
  (aj:match r with|none=>I= .mapIter none 0 [] 0|some id=>∃es cl,o.get id=some (.map es cl)∧I= .mapIter (some id) cl [] cl):
  ∃bL ao aG,(Instr.range t u).run P w= .ok bL ao∧aq ao aG (a_ (o.push I) aG) B (jn o.next 0) bL∧Rel P (o.push I) ao aG B∧Ext f o w m (o.push I) ao aG:=by
 cases r with
 |none=>
  simp only at aj;subst aj;cases hx;obtain⟨h1,h2⟩:=af.alloc f (w.alloc (.mapIter none 0 #[] 0)) (.mapIter none 0 [] 0) (.mapIter none 0 #[] 0) rfl rfl rfl rfl rfl (.mapIter trivial);exact⟨.pointer (some ⟨w.heap.size,0,none⟩),w.alloc (.mapIter none 0 #[] 0),_,by simp[Instr.range,run_underlying ht,UN],.p (gK _ _ _),h1,h2⟩
 |some id=>
  obtain⟨es,cl,hg,rfl⟩:=aj;obtain⟨ar,hm,rfl⟩:=hx.EK;obtain⟨db,hh,_⟩:=af.Bg hm hg;obtain⟨h1,h2⟩:=af.alloc f (w.alloc (.mapIter (some ar) cl #[] cl)) (.mapIter (some id) cl [] cl) (.mapIter (some ar) cl #[] cl) rfl rfl rfl rfl rfl (.mapIter hm);exact⟨.pointer (some ⟨w.heap.size,0,none⟩),w.alloc (.mapIter (some ar) cl #[] cl),_,by simp[Instr.range,run_underlying ht,run_getObj_map hh,UN],.p (gK _ _ _),h1,h2⟩
theorem UP(n:Nat):∀(l:List Nat),kQ n l=l.contains n
 |[]=>rfl
 |x::l=>by
  show cond (Nat.beq x n) true (kQ n l)=_;rw[List.contains_cons,UP n l];have:(n==x)=Nat.beq x n:=by
   rw[hD,lC,beq_iff_eq];exact⟨fun h=>h.symm,fun h=>h.symm⟩
  rw[this];cases Nat.beq x n<;>rfl
theorem UQ(seen:List Nat):∀(es:List j2),lF seen es=es.filter fun e=>!seen.contains e.2.2
 |[]=>rfl
 |e::es=>by
  show cond (kQ e.2.2 seen) (lF seen es) (e::lF seen es)=_;rw[UQ seen es,UP,JI];cases seen.contains e.2.2<;>rfl
theorem KC{α β:Type}{r:α→β→Prop}{p:α→Bool}{q:β→Bool}(h:∀x y,r x y→p x=q y):∀ {l:List α} {dF:List β},iA r l dF→iA r (l.filter p) (dF.filter q)
 |[],[],_=>trivial
 |[],_::_,h'=>h'.elim
 |_::_,[],h'=>h'.elim
 |x::l,y::dF,h'=>by
  rw[JI,JI,h x y h'.1];cases q y with
  |true=>exact⟨h'.1,KC h h'.2⟩
  |false=>exact KC h h'.2
theorem UR(af:Rel P o w m B){f:Nat}{it ar i since:Nat}{seen:List Nat}(hf:f≤it)(hm:m it=some ar)(hg:o.get it=some (.mapIter (some i) since seen since)){es:List j2}(lj:o.get i=some (.map es since))(c0u:∀e∈es,e.2.2<since)(t:TypeId):
  (lF seen es=[]∧(Instr.next (.pointer (some ⟨ar,0,none⟩)) false t).run P w= .ok (.tuple #[.bool false]) w)∨
  ∃e∈lF seen es,∃u ao,(Instr.next (.pointer (some ⟨ar,0,none⟩)) false t).run P w= .ok u ao∧
   aq ao m (a_ (o.set it (.mapIter (some i) since (seen++[e.2.2]) since)) m) B (.aK [.b true,e.1,e.2.1]) u∧Rel P (o.set it (.mapIter (some i) since (seen++[e.2.2]) since)) ao m B∧Ext f o w m (o.set it (.mapIter (some i) since (seen++[e.2.2]) since)) ao m:=by
 obtain⟨b,hh,mN⟩:=af.UM hm hg;obtain⟨db,KD,hall⟩:=af.Bg mN lj;have c0v:∀e∈db.toList,e.born<since:=fun eQ A6=>by
  obtain⟨k,ax,rfl⟩:=k8 A6;have hlen:=wb hall;have:=wc hall k (by omega) ax;rw[this.2.2];exact c0u _ (cB _)
 have KE:iA (sw w m (a_ o m) B) (lF seen es) (leftOf db seen.toArray).toList:=by
  rw[UQ];have h1:(leftOf db seen.toArray).toList=db.toList.filter fun e=>!seen.contains e.born:=by simp[leftOf]
  rw[h1];exact KC (fun x y h=>by rw[h.2.2]) hall
 have bu:=(af.eP _ _ hm).1;rcases run_next_at (P:=P) w t ar b since since seen.toArray db since hh KD c0v (bK _) with⟨h1,h2⟩|⟨eQ,A6,bn,tS,h2⟩
 ·refine .inl ⟨?_,h2⟩;have:=wb KE;rw[qZ,h1] at this;exact nc this.symm
 ·obtain⟨k,ax,rfl⟩:=k8 A6;have hlen:=wb KE;have rl:=wc KE k (by omega) ax;refine .inr ⟨(lF seen es)[k]'(by omega),cB _,?_⟩;generalize(lF seen es)[k]'(by omega)=e at rl;generalize(leftOf db seen.toArray).toList[k]=aE at rl h2;obtain⟨c0w,c0x,c0y⟩:=rl;have KF:bn.heap=w.heap:=by rcases tS with rfl|rfl<;>rfl
  have c0z:bsz w ar=none:=by unfold bsz;rw[hh]
  obtain⟨iR,fg⟩:=af.c7 (f:=f) hf hm ⟨_,hg,rfl⟩ (setBlock bn ar (.mapIter (some b) since (seen.toArray.push aE.born) since)) (.mapIter (some i) since (seen++[e.2.2]) since)
   (by simp[setBlock,KF]) (fun k ax=>by simp[setBlock,KF,D9,oG ax]) (fun n hn=>by rw[c0z] at hn;cases hn)
   (by rcases tS with rfl|rfl<;>rfl) (by rcases tS with rfl|rfl<;>rfl) (by rcases tS with rfl|rfl<;>rfl)
   (fun _=>⟨.mapIter (some b) since (seen.toArray.push aE.born) since,by simp[setBlock,KF,D9,bu],by
    have eG:seen.toArray.push aE.born=(seen++[e.2.2]).toArray:=by rw[c0y];simp
    rw[eG];exact .mapIter mN⟩)
  exact⟨_,_,h2,aq.sm (bm.cons (.b true) (bm.cons (c0w.ext fg af) (bm.cons (c0x.ext fg af) bm.nil))),iR,fg⟩
theorem US{n1:Nat}:∀ {es:List j2} {db:List MapEntry} {e:j2},iA (sw w m (a_ o m) B) es db→nQ n1 es=some e→∃eQ,db.find? (fun x=>x.born==n1)=some eQ∧sw w m (a_ o m) B e eQ
 |[],[],e,_,h=>by cases h
 |[],_::_,_,h,_=>h.elim
 |_::_,[],_,h,_=>h.elim
 |x::es,y::db,e,hall,h=>by
  have h:cond (Nat.beq x.2.2 n1) (some x) (nQ n1 es)=some e:=h;have hb:(y.born==n1)=Nat.beq x.2.2 n1:=by
   rw[hall.1.2.2,hD,lC,beq_iff_eq]
  rw[List.find?_cons,hb];cases aI:Nat.beq x.2.2 n1 with
  |true=>rw[aI] at h;cases h;exact⟨y,rfl,hall.1⟩
  |false=>rw[aI] at h;exact US hall.2 h
theorem UT:∀(l:List Nat),oM l=l.getLast?
 |[]=>rfl
 |x::l=>by
  have h:oM (x::l)=match oM l with|none=>some x|some y=>some y:=rfl
  rw[h,UT l,List.getLast?_cons];cases l.getLast? <;>rfl
theorem c0A(af:Rel P o w m B){it ar i since cl:Nat}{seen:List Nat}(hm:m it=some ar)(hg:o.get it=some (.mapIter (some i) since seen cl)){es:List j2}(lj:o.get i=some (.map es cl)){n1:Nat}(au:oM seen=some n1){e:j2}(he:nQ n1 es=some e):
  ∃u,(Instr.entry (.pointer (some ⟨ar,0,none⟩))).run P w= .ok u w∧aq w m (a_ o m) B (.aK [e.1,e.2.1]) u:=by
 obtain⟨b,hh,mN⟩:=af.UM hm hg;obtain⟨db,KD,hall⟩:=af.Bg mN lj;obtain⟨eQ,h1,h2⟩:=US hall he;have tT:seen.toArray.back? =some n1:=by rw[UT] at au;simpa using au
 have hf:db.find? (fun x=>x.born==n1)=some eQ:=by rw[←Array.find?_toList];exact h1
 refine⟨.tuple #[eQ.key,eQ.val],?_,aq.sm (bm.cons h2.1 (bm.cons h2.2.1 bm.nil))⟩;simp only[Instr.entry,getObj,er,Sem.run,hh,KD,Result.andThen,tT,bne_self_eq_false,oH,if_false,hf];rfl
theorem c0B(af:Rel P o w m B){it ar since gB:Nat}{seen:List Nat}(hm:m it=some ar)(hg:o.get it=some (.mapIter none since seen gB))(t:TypeId):
  (Instr.next (.pointer (some ⟨ar,0,none⟩)) false t).run P w= .ok (.tuple #[.bool false]) w:=by
 have hh:=af.c0t hm hg;simp only[Instr.next,getObj,er,Sem.run,hh,Result.andThen];rfl
end
end
end Go.Lyc
end
