/-
  An abstract executor of the program's code, and that it is sound, part 1. No conditions: definitions and laws.
-/
import GoSem.Step
import Derived.RangeFuncLeaves
import Derived.RecoverIn
import Derived.OrdersIn
import Derived.Laws.IdiomCopy
import Derived.Below
import Derived.MapKept
import Derived.Laws.Strings
import Derived.Deep.Upon
import Derived.Laws.IdiomStrings
import Derived.Laws.MakeOwn
import Derived.Lib.AppendZeros
import Derived.Maps.RangeRun
set_option linter.all false
noncomputable section
namespace Go.Lyc
def o:=@Nat.le_refl
def l_:=@Nat.le_trans
def a6:=@Option.some.injEq
def fm:=@Nat.eq_of_beq_eq_true
def fy:=@Nat.beq_refl
def oa:=@Ne.symm
def qc:=@Nat.lt_succ_self
def gg:=@Nat.blt_eq
def zA:=@Nat.lt_succ_of_lt
def fH:=@List.length_cons
def z1:=@List.getElem?_cons_succ
def BB:=@Array.getElem?_setIfInBounds
def Ie:=@Array.getElem?_setIfInBounds_ne
def xy:=@Array.getElem?_eq_some_iff
def Ig:=@Array.getElem?_push
def Ih:=@Nat.le_succ
def mK:=@Nat.lt_or_ge
def xz:=@Array.getElem?_eq_none
def eK:=@List.map_map
def B_:=@List.map_id
def gl:=@List.map_congr_left
def bQ:=@List.mem_map
def qd:=@Array.length_toList
def gm:=@List.getElem_of_mem
def ki:=@List.getElem?_eq_some_iff
def a9:=@List.getElem?_eq_getElem
def jn:=@List.getElem_append_left
def jG:=@List.getElem_append_right
def I0:=@List.getElem_drop
def C0:=@List.getElem_take
def d_:=@List.mem_singleton
def dZ:=@Go.Sem.run_bind
def ec:=@Go.Result.andThen_ok
def eL:=@List.length_take
def ti:=@Nat.add_zero
def oy:=@List.mem_of_mem_take
def mw:=@List.mem_of_mem_drop
def ng:=@List.length_drop
def lL:=@List.getElem?_drop
def qe:=@List.getElem?_take_of_lt
def aJ:=@List.length_map
def oz:=@List.length_range
def eV:=@Nat.le_of_ble_eq_true
def aS:=@List.getElem_mem
def nN:=@Array.getElem?_eq_getElem
def dE:=@List.mem_append
def vC:=@List.getElem?_append
def cx:=@Bool.and_eq_true
def lM:=@Array.getElem?_toList
def fQ:=@List.getElem_map
def gx:=@Go.Sem.run_pure
def I1:=@Int.emod_eq_of_lt
def NJ:=@UInt8.lt_iff_toNat_lt
def nO:=@Bool.false_eq_true
def pw:=@List.cons.injEq
def jK:=@List.map_cons
def oA:=@Bool.eq_iff_iff
def gz:=@List.mem_cons_self
def e9:=@List.mem_cons_of_mem
def NK:=@Go.ByteArray.toList_eq
def lV:=@Array.ext'
def NL:=@Go.MapKept.bytes_beq
def Dl:=@Int.natCast_nonneg
def mL:=@Bool.or_eq_true
def m3:=@Nat.beq_eq
def vD:=@Int.ofNat.inj
def NM:=@Nat.lt_of_le_of_lt
def eu:=@Nat.ble_eq_true_of_le
def tR:=@Int.ofNat_eq_natCast
def Ao:=@Int.ofNat_lt
def tS:=@Nat.add_assoc
def ia:=@Option.some.inj
def wj:=@Option.map_some
def I2:=@List.map_drop
def ju:=@Nat.add_mul
def qa:=@Nat.mul_le_mul_right
def hv:=@Nat.zero_le
def wk:=@List.ext_getElem?
def nh:=@List.foldl_cons
def OK:=@Array.mapM_eq_mapM_toList
def tT:=@Nat.one_mul
def qf:=@Nat.add_comm
def gK:=@List.map_append
def mI:=@List.eq_nil_of_length_eq_zero
def Ap:=@List.getElem_range
def wm:=@Array.toList_range
def sm:=@Array.toList_map
def I3:=@Array.getElem!_eq_getD
def pa:=@Array.getD_eq_getD_getElem?
def eG:=@List.flatMap_cons
def cH:=@List.mem_cons
def gP:=@List.mem_flatMap
def mJ:=@List.getElem_cons_zero
def xA:=@List.length_pos_iff
def OL:=@Nat.one_le_iff_ne_zero
def OM:=@Nat.mul_le_mul_left
def Qj:=@Array.size_append
def cR:=@List.length_append
def Qk:=@Array.getElem_append_left
def k6:=@List.mem_append_left
def Aq:=@List.mem_range
def ni:=@List.mem_append_right
def pb:=@List.drop_drop
def DD:=@List.getElem_cons_succ
def DE:=@List.forIn_cons
def Ql:=@List.zip_cons_cons
def sn:=@List.all_cons
def so:=@Bool.and_self
def q6:=@Bool.not_eq_true'
def hP:=@List.all_eq_true
def kj:=@Nat.sub_self
def uh:=@List.length_set
def Ec:=@List.getElem_set
def AJ:=@List.filter_cons
set_option maxHeartbeats 0
set_option maxRecDepth 100000
inductive AV where
 |b (x:Bool)
 |i (k:IntKind) (n:Int)
 |s (l:List Nat)
 |p (a:Option (Nat×Nat))
 |cZ (old:Bool) (v:AV)
 |ak (id off len:Nat) (ad:Option Nat) (cap:Option Nat)
 |aB
 |a7 (old:Bool) (ad:Option Nat) (xs:List AV)
 |m (r:Option Nat)
 |f (fn:Fn) (first captured:List AV)
 |iP
 |it (t:TypeId) (v:AV)
 |fz
 |ag (l:List AV)
 |bJ (l:List AV)
 |h4 (k:IntKind) (d j:Nat) -- a b8g number,of Qt is known J7 it leaves by d
 |gD (ex:List (List Nat)) -- a string,none of a0w
 |iQ (hi:Bool) -- w4 i64 vm is not known:b8h it is b8i a0x 40
 |y (i:Nat) -- a string,w4 integer vm is not known
 |g1 (old:Bool) (i:Nat) -- a slice vm is not known,over memory vm never changes
 |fo (n:Nat) -- w4 i64 vm is not known,not less a0x n
 |gv (aK hi:Nat) -- w4 i64 vm is not known,b8j two numbers
 |ix (old:Bool) (ad:Option Nat) (xs:List AV) -- b8k a7,with a capacity vm is a0y length
 deriving Inhabited
inductive aC where
 |t (i:Nat)
 |c (v:AV)
 |g (g:Nat)
 deriving Inhabited
inductive sr where
 |fn (f:Nat)
 |val (J:aC)
 deriving Inhabited
inductive AOp where
 |b6 (x:aC)
 |pick (c a b:aC)
 |alloc (v:AV)
 |box (x:aC)
 |build (zero:List AV) (parts:List (Nat×Nat×aC)) -- offset,cells,J7
 |buildSlice (ad:Option Nat) (len:Nat) (zero:List AV) (parts:List (Nat×aC))
 |load (ad:Option Nat) (a:aC)
 |store (ad:Option Nat) (a x:aC)
 |nilCheck (x:aC)
 |bin (op:BinOp) (x y:aC)
 |w5 (neg:Bool) (x y:aC)
 |lN (kind:Nat) (neg:Bool) (x y:aC) -- kind:0 interface,1 pointer,2 function,3 slice,4 map;from 10 on:structs
 |not (x:aC)
 |neg (x:aC)
 |conv (k:IntKind) (x:aC)
 |Fj (x:aC)
 |BC (x:aC)
 |BD (t:TypeId) (x:aC)
 |vn (fn:Fn) (first captured:List aC)
 |mkMap
 |mkSlice (ad:Option Nat) (bytes:Nat) (zero:List AV) (len cap:aC)
 |zc (n:Nat) (ad:Option Nat) (x:aC) (aK hi:Option aC)
 |kX (ad:Option Nat) (x:aC) (aK hi c9:Option aC)
 |BE (x:aC) (aK hi:Option aC)
 |fieldAddr (off:Nat) (ad:Option Nat) (x:aC)
 |field (off:Nat) (ad:Option Nat) (x:aC)
 |Fk (n:Nat) (ad:Option Nat) (x i:aC)
 |cK (ad:Option Nat) (x i:aC)
 |J8 (x i:aC)
 |J9 (n:Nat) (ad:Option Nat) (x i:aC)
 |lookup (ad:Nat ⊕ List Nat) (x k:aC) (zero:AV) (ok:Bool) -- qg b8l shape
 |pc (ad:Nat ⊕ List Nat) (m k v:aC)
 |rangeMap (x:aC)
 |ss (x:aC)
 |entry (x:aC)
 |Fl (x:aC) (t:TypeId) (zero:AV) (ok:Bool)
 |extract (x:aC) (i:Nat)
 |call (c:sr) (args:List aC)
 |nj (c:sr) (args:List aC)
 |panic (x:aC)
 |append (ad:Option Nat) (bytes:Nat) (s x:aC)
 |len (kind:Nat) (x:aC) -- 0:string;1:slice;2:map
 |Fo (n:Nat)
 |cap (x:aC)
 |copy (ad:Option Nat) (d s:aC)
 |lO (c9:Bool) (x y:aC)
 |recover
 |bad
 deriving Inhabited
structure a1 where
 dst:Option Nat
 op:AOp
 guard:Option (Nat×Bool) -- qg a0z,and J7 it b8m be
 lg:List Nat -- of a region vm b8n:qg places ahead of Qt it may b8o,a0A
 deriving Inhabited
inductive bB where
 |skip
 |region (ops:List a1)
 |draw (ops:List a1)
 |seq (a b:bB)
 |cond (c:aC) (a b:bB)
 |block (id:Nat) (a:bB)
 |loop (a:bB)
 |scope (a:bB)
 |rangeFunc (f:aC) (ps:List Nat) (assign body:bB)
 |exit (id:Nat)
 |ret
 |bad
 deriving Inhabited
structure ch where
 lP:Nat
 ntmps:Nat
 results:List (Nat×Option (Option Nat)) -- qg a0z;none:by value;some ad:a cell of vm shape
 body:Option bB
 deriving Inhabited
inductive aT(α:Type) where
 |nil
 |node (v:Option α) (l r:aT α)
 deriving Inhabited
def aT.get{α:Type}(t:aT α):Nat→Option α:=
 aT.rec (fun _=>none) (fun v _ _ jd BF i=>Bool.rec (motive:=fun _=>Option α) (Bool.rec (motive:=fun _=>Option α) (BF (Nat.div (Nat.sub i 1) 2)) (jd (Nat.div (Nat.sub i 1) 2)) (Nat.beq (Nat.mod i 2) 1)) v (Nat.beq i 0)) t
def aT.set{α:Type}(t:aT α):Nat→α→aT α:=
 aT.rec (fun _ _=>.nil) (fun v l r jd BF i x=>Bool.rec (motive:=fun _=>aT α) (Bool.rec (motive:=fun _=>aT α) (.node v l (BF (Nat.div (Nat.sub i 1) 2) x)) (.node v (jd (Nat.div (Nat.sub i 1) 2) x) r) (Nat.beq (Nat.mod i 2) 1))
  (.node (Option.rec (motive:=fun _=>Option α) none (fun _=>some x) v) l r) (Nat.beq i 0)) t
def aT.zd{α:Type}(f:Nat):Nat→α→aT α:=
 Nat.rec (fun _ _=>.nil) (fun _ aA i x=>Bool.rec (motive:=fun _=>aT α) (Bool.rec (motive:=fun _=>aT α) (.node none .nil (aA (Nat.div (Nat.sub i 1) 2) x)) (.node none (aA (Nat.div (Nat.sub i 1) 2) x) .nil) (Nat.beq (Nat.mod i 2) 1)) (.node (some x) .nil .nil) (Nat.beq i 0)) f
def aT.ins{α:Type}(t:aT α):Nat→α→aT α:=
 aT.rec (fun i x=>aT.zd (i+1) i x) (fun v l r jd BF i x=>Bool.rec (motive:=fun _=>aT α) (Bool.rec (motive:=fun _=>aT α) (.node v l (BF (Nat.div (Nat.sub i 1) 2) x)) (.node v (jd (Nat.div (Nat.sub i 1) 2) x) r) (Nat.beq (Nat.mod i 2) 1))
  (.node (some x) l r) (Nat.beq i 0)) t
def aT.full{α:Type}(f:Nat)(x:α):Nat→aT α:=
 Nat.rec (fun _=>.nil) (fun _ aA n=>cond (Nat.beq n 0) .nil (.node (some x) (aA (Nat.div n 2)) (aA (Nat.div (Nat.sub n 1) 2)))) f
def aT.lay{α:Type}(l:List α):Nat→aT α→aT α:=
 List.rec (fun _ t=>t) (fun x _ aA i t=>aA (i+1) (t.set i x)) l
inductive q8 where
 |h
 |l (p:q8)
 |r (p:q8)
def w6(f:Nat):Nat→q8:=
 Nat.rec (motive:=fun _=>Nat→q8) (fun _=>.h) (fun _ aA i=>Bool.rec (motive:=fun _=>q8) (Bool.rec (motive:=fun _=>q8) (.r (aA (Nat.div (Nat.sub i 1) 2))) (.l (aA (Nat.div (Nat.sub i 1) 2))) (Nat.beq (Nat.mod i 2) 1)) .h (Nat.beq i 0)) f
def J_(i:Nat):q8:=w6 (Nat.succ i) i
def aT.Fp{α:Type}(p:q8):aT α→Option α:=
 q8.rec (motive:=fun _=>aT α→Option α) (fun t=>aT.rec (motive:=fun _=>Option α) none (fun v _ _ _ _=>v) t) (fun _ aA t=>aT.rec (motive:=fun _=>Option α) none (fun _ l _ _ _=>aA l) t)
  (fun _ aA t=>aT.rec (motive:=fun _=>Option α) none (fun _ _ r _ _=>aA r) t) p
def aT.Qu{α:Type}(x:α)(p:q8):aT α→aT α:=
 q8.rec (motive:=fun _=>aT α→aT α) (fun t=>aT.rec (motive:=fun _=>aT α) .nil (fun v l r _ _=>.node (Option.rec (motive:=fun _=>Option α) none (fun _=>some x) v) l r) t)
  (fun _ aA t=>aT.rec (motive:=fun _=>aT α) .nil (fun v l r _ _=>.node v (aA l) r) t) (fun _ aA t=>aT.rec (motive:=fun _=>aT α) .nil (fun v l r _ _=>.node v l (aA r)) t) p
inductive AO where
 |cells (c:List AV)
 |dead
 |map (es:List (AV×AV×Nat)) (clock:Nat)
 |mapIter (m:Option Nat) (since:Nat) (seen:List Nat) (hk:Nat)
 |loop (st:LoopState) (pending:Option bB) (bk:aT AV) (ps:List Nat) (assign body:bB) (g2:Nat)
 |g2
 |eT (c:List AV) (r:Nat) -- cells,and a0B many more there a0C behind b8p,b8q b8r hold
 deriving Inhabited
structure af where
 w7:aT AO
 next:Nat
 deriving Inhabited
def mapO{α β:Type}(f:α→Option β)(l:List α):Option (List β):=
 List.rec (some []) (fun x _ aA=>match f x with|none=>none|some y=>match aA with|none=>none|some aO=>some (y::aO)) l
def nth{α:Type}(l:List α):Nat→Option α:=
 List.rec (fun _=>none) (fun x _ aA n=>Nat.rec (some x) (fun n _=>aA n) n) l
def eqL(l:List Nat):List Nat→Bool:=
 List.rec (fun r=>match r with|[]=>true|_::_=>false) (fun x _ aA r=>match r with|[]=>false|y::aO=>cond (Nat.beq x y) (aA aO) false) l
def iy(l:List Nat):List Nat→Bool:=
 List.rec (fun r=>match r with|[]=>false|_::_=>true)
  (fun x _ aA r=>match r with
   |[]=>false
   |y::aO=>cond (Nat.blt x y) true (cond (Nat.beq x y) (aA aO) false)) l
def gb{α:Type}(f:α→α→Bool)(l:List α):List α→Bool:=
 List.rec (fun r=>match r with|[]=>true|_::_=>false) (fun x _ aA r=>match r with|[]=>false|y::aO=>cond (f x y) (aA aO) false) l
def af.get(I:af)(id:Nat):Option AO:=cond (Nat.blt id I.next) (I.w7.get id) none
def af.set(I:af)(id:Nat)(J:AO):af:=⟨I.w7.ins id J,I.next⟩
def af.push(I:af)(J:AO):af:=⟨I.w7.ins I.next J,I.next+1⟩
def AV.cells:AV→List AV
 | .ag l=>l
 |v=>[v]
def AV.val:AV→Bool
 | .bJ _=>false
 |_=>true
def shN:Option Nat→Nat
 |none=>1
 |some n=>n
def fI(ad:Option Nat)(c:List AV):Option AV:=
 match ad with
 |none=>c.head?
 |some n=>let l:=c.take n;if l.length=n then some (.ag l) else none
def conf(ad:Option Nat)(v:AV):Bool:=
 match ad,v with
 |none,.ag _=>false
 |none,.bJ _=>false
 |none,_=>true
 |some n,.ag l=>Nat.beq l.length n
 |some _,_=>false
def elems(ad:Option Nat)(n:Nat)(c:List AV):Option (List AV):=
 Nat.rec (motive:=fun _=>List AV→Option (List AV)) (fun _=>some [])
  (fun _ aA c=>match fI ad c with
   |none=>none
   |some v=>match aA (c.drop (shN ad)) with|none=>none|some a3=>some (v::a3)) n c
def readList(I:af):AV→Option (List AV)
 | .aB=>some []
 | .a7 _ _ xs=>some xs
 | .ix _ _ xs=>some xs
 | .ak id off len ad _=>match I.get id with
  |some (.cells c)=>elems ad len (c.drop off)
  |_=>none
 |_=>none
def freeze(I:af)(base:Nat)(n:Nat):AV→Option AV:=
 Nat.rec (motive:=fun _=>AV→Option AV) (fun _=>none) (fun _ aA v=>
  match v with
  | .ak id off len ad cap=>if Nat.blt id base then none else
   match readList I (.ak id off len ad cap) with
   |none=>none
   |some xs=>match mapO aA xs with|none=>none|some xs=>some (.a7 false ad xs)
  | .ag l=>match mapO aA l with|none=>none|some l=>some (.ag l)
  | .bJ l=>match mapO aA l with|none=>none|some l=>some (.bJ l)
  | .it t v=>match aA v with|none=>none|some v=>some (.it t v)
  | .p (some _)=>none
  | .m (some _)=>none
  | .f _ _ _=>none
  | .ix _ _ _=>none
  |v=>some v) n
def bh(I:af)(n:Nat):AV→Option AV:=
 Nat.rec (motive:=fun _=>AV→Option AV) (fun _=>none) (fun _ aA v=>
  match v with
  | .ak id off len ad cap=>
   match readList I (.ak id off len ad cap) with
   |none=>none
   |some xs=>match mapO aA xs with|none=>none|some xs=>some (.a7 true ad xs)
  | .aB=>some .aB
  | .a7 _ ad xs=>match mapO aA xs with|none=>none|some xs=>some (.a7 true ad xs)
  | .ag l=>match mapO aA l with|none=>none|some l=>some (.ag l)
  | .bJ l=>match mapO aA l with|none=>none|some l=>some (.bJ l)
  | .it t v=>match aA v with|none=>none|some v=>some (.it t v)
  | .p (some _)=>none
  | .m (some _)=>none
  | .cZ _ _=>none
  | .f _ _ _=>none
  | .g1 _ i=>some (.g1 true i)
  | .ix _ _ _=>none
  |v=>some v) n
def AV.eqb(n:Nat):AV→AV→Bool:=
 Nat.rec (motive:=fun _=>AV→AV→Bool) (fun _ _=>false) (fun _ aA x y=>
  match x,y with
  | .b x,.b y=>x==y
  | .i k x,.i l y=>decide (k=l)&&decide (x=y)
  | .s x,.s y=>eqL x y
  | .aB,.aB=>true
  | .a7 q9 ad xs,.a7 c5 fp aO=>(q9==c5)&&decide (ad=fp)&&gb aA xs aO
  | .iP,.iP=>true
  | .fz,.fz=>true
  | .p none,.p none=>true
  | .p (some x),.p (some y)=>Nat.beq x.1 y.1&&Nat.beq x.2 y.2
  | .m none,.m none=>true
  | .m (some x),.m (some y)=>Nat.beq x y
  | .ak aP a0 bF bU c6,.ak cC c0 ej j1 iz=>Nat.beq aP cC&&Nat.beq a0 c0&&Nat.beq bF ej&&decide (bU=j1)&&decide (c6=iz)
  | .cZ q9 x,.cZ c5 y=>(q9==c5)&&aA x y
  | .f bu ep x,.f aU nQ y=>decide (bu=aU)&&(gb aA ep nQ&&gb aA x y)
  | .it t x,.it u y=>Nat.beq t u&&aA x y
  | .ag x,.ag y=>gb aA x y
  | .bJ x,.bJ y=>gb aA x y
  | .h4 k d j,.h4 cW dT su=>decide (k=cW)&&(Nat.beq d dT&&Nat.beq j su)
  | .gD x,.gD y=>gb eqL x y
  | .iQ c,.iQ d=>c==d
  | .y c,.y d=>Nat.beq c d
  | .g1 q9 c,.g1 c5 d=>(q9==c5)&&Nat.beq c d
  | .fo c,.fo d=>Nat.beq c d
  | .gv c aQ,.gv d dT=>Nat.beq c d&&Nat.beq aQ dT
  |_,_=>false) n
def qh(a:List Nat)(ex:List (List Nat)):Bool:=List.rec false (fun x _ aA=>cond (eqL a x) true aA) ex
def leafEq(kind:Nat)(a b:AV):Option Bool:=
 match kind,a,b with
 |0,.i k a,.i l b=>if k=l then some (decide (a=b)) else none
 |1,.s a,.s b=>some (eqL a b)
 |2,.b x,.b y=>some (x==y)
 |1,.gD ex,.s b=>cond (qh b ex) (some false) none
 |1,.s a,.gD ex=>cond (qh a ex) (some false) none
 |_,_,_=>none
def oB(bc:List Nat):List AV→List AV→Option Bool:=
 List.rec (fun l r=>match l,r with|[],[]=>some true|_,_=>none)
  (fun k _ aA l r=>match l,r with
   |x::xs,y::aO=>match leafEq k x y,aA xs aO with|some a,some b=>some (a&&b)|_,_=>none
   |_,_=>none) bc
abbrev jL:=Nat ⊕ List Nat
def keyEq(ad:jL)(a b:AV):Option Bool:=
 match ad with
 | .inl k=>leafEq k a b
 | .inr bc=>match a,b with
  | .ag x,.ag y=>oB bc x y
  |_,_=>none
def keySelf(ad:jL)(a:AV):Bool:=
 match ad,a with
 | .inl 1,.gD _=>true
 |ad,a=>match keyEq ad a a with|some _=>true|none=>false
def oC(ad:jL)(k:AV)(es:List (AV×AV×Nat)):Option (Option AV):=
 List.rec (some none) (fun e _ aA=>match keyEq ad k e.1 with|none=>none|some true=>some (some e.2.1)|some false=>aA) es
def nR(ad:jL)(k v:AV)(es:List (AV×AV×Nat)):Option (Option (List (AV×AV×Nat))):=
 List.rec (some none) (fun e es aA=>match keyEq ad k e.1 with
  |none=>none
  |some true=>some (some ((k,v,e.2.2)::es))
  |some false=>match aA with|none=>none|some none=>some none|some (some es)=>some (some (e::es))) es
def storeCells(c:List AV)(off:Nat)(v:List AV):Option (List AV):=
 if Nat.ble (off+v.length) c.length then some (c.take off++(v++c.drop (off+v.length))) else none
def wrapN(k:IntKind)(n:Int):Int:=
 match k,n with
 | .i64,.ofNat x=>cond (Nat.blt x 9223372036854775808) n (k.wrap n)
 |_,n=>k.wrap n
def Qv(op:BinOp)(k:IntKind)(x y:Int):Option Int:=
 let a:=BitVec.ofInt k.bits x
 let b:=BitVec.ofInt k.bits y
 match op with
 | .and=>some (k.wrap (a &&& b).toNat)
 | .or=>some (k.wrap (a ||| b).toNat)
 | .xor=>some (k.wrap (a ^^^ b).toNat)
 | .andNot=>some (k.wrap (a &&& ~~~b).toNat)
 |_=>none
def binI(op:BinOp)(k:IntKind)(x y:Int):Option AV:=
 match op with
 | .add=>some (.i k (wrapN k (x+y)))
 | .sub=>some (.i k (wrapN k (x-y)))
 | .mul=>some (.i k (wrapN k (x*y)))
 | .quo=>if y=0 then none else some (.i k (k.wrap (x.tdiv y)))
 | .rem=>if y=0 then none else some (.i k (x.tmod y))
 | .eql=>some (.b (decide (x=y)))
 | .neq=>some (.b (!decide (x=y)))
 | .lss=>some (.b (decide (x<y)))
 | .leq=>some (.b (decide (x≤y)))
 | .gtr=>some (.b (decide (y<x)))
 | .geq=>some (.b (decide (y≤x)))
 |op=>match Qv op k x y with|some n=>some (.i k n)|none=>none
def binS(op:BinOp)(x y:List Nat):Option AV:=
 match op with
 | .add=>if Nat.blt (x.length+y.length) 4611686018427387904 then some (.s (x++y)) else none
 | .eql=>some (.b (eqL x y))
 | .neq=>some (.b (!eqL x y))
 | .lss=>some (.b (iy x y))
 | .leq=>some (.b (!iy y x))
 | .gtr=>some (.b (iy y x))
 | .geq=>some (.b (!iy x y))
 |_=>none
def sxEq(op:BinOp)(a:List Nat)(ex:List (List Nat)):Option AV:=
 cond (qh a ex) (match op with| .eql=>some (.b false)| .neq=>some (.b true)|_=>none) none
def umOp(op:BinOp)(k:IntKind)(d j c:Nat):Option AV:=
 cond (Nat.blt 0 c&&(Nat.beq (d%c) 0&&(decide (k= .u8)||decide (k= .i64))))
  (match op with
   | .rem=>some (.i k (Int.ofNat (j%c)))
   | .quo=>some (.h4 k (d/c) (j/c))
   |_=>none) none
def ivOp(op:BinOp)(aK hi c:Nat):Option AV:=
 match op with
 | .add=>cond (Nat.blt (hi+c) 4611686018427387904) (some (.gv (aK+c) (hi+c))) none
 | .mul=>cond (Nat.beq c 0) (some (.i .i64 (Int.ofNat 0))) none
 | .gtr=>cond (Nat.ble hi c) (some (.b false)) (cond (Nat.blt c aK) (some (.b true)) none)
 | .leq=>cond (Nat.ble hi c) (some (.b true)) (cond (Nat.blt c aK) (some (.b false)) none)
 | .eql=>cond (Nat.blt c aK||Nat.blt hi c) (some (.b false)) none
 | .neq=>cond (Nat.blt c aK||Nat.blt hi c) (some (.b true)) none
 |_=>none
def binop(op:BinOp)(x y:AV):Option AV:=
 match x,y with
 | .i k a,.i l b=>match op with
  | .shl=>if b<0 then none else some (.i k (k.wrap (a*2^(min b.toNat k.bits))))
  | .shr=>if b<0 then none else some (.i k (a.fdiv (2^(min b.toNat k.bits))))
  |op=>if k=l then binI op k a b else none
 | .s a,.s b=>binS op a b
 | .h4 k d j,.i l (.ofNat c)=>if k=l then umOp op k d j c else none
 | .gv aK hi,.i .i64 (.ofNat c)=>ivOp op aK hi c
 | .i .i64 (.ofNat c),.gv aK hi=>(match op with| .add=>ivOp .add aK hi c|_=>none)
 | .iQ hi,.i l (.ofNat c)=>if l= .i64∧c=40 then(match op with| .gtr=>some (.b hi)| .leq=>some (.b (!hi))|_=>none) else none
 | .s a,.gD ex=>sxEq op a ex
 | .gD ex,.s a=>sxEq op a ex
 |_,_=>none
def binopB(x y:AV):Option Bool:=
 match x,y with
 | .b c,.b d=>some (c==d)
 |_,_=>none
def Fq:List Nat→Nat
 |[]=>1
 |d::ds=>Fq ds*4+d
def Qw(f:Nat):Nat→List Nat:=Nat.rec (motive:=fun _=>Nat→List Nat) (fun _=>[]) (fun _ aA n=>cond (Nat.ble n 1) [] (Nat.mod n 4::aA (Nat.div n 4))) f
def isNilEq(kind:Nat)(x y:AV):Option Bool:=
 match kind,x,y with
 |0,.it _ _,.fz=>some false
 |1,.p (some _),.p none=>some false
 |1,.cZ _ _,.p none=>some false
 |1,.p none,.p none=>some true
 |2,.f _ _ _,.iP=>some false
 |2,.iP,.iP=>some true
 |3,.aB,.aB=>some true
 |3,.ak _ _ _ _ _,.aB=>some false
 |3,.a7 _ _ (_::_),.aB=>some false
 |4,.m none,.m none=>some true
 |4,.m (some _),.m none=>some false
 |k,.ag x,.ag y=>cond (Nat.ble 10 k) (oB (Qw 40 (k-10)) x y) none
 |_,_,_=>none
def natOf:AV→Option Nat
 | .i _ (.ofNat n)=>some n
 |_=>none
def dR:AV:=.bJ []
structure Fr where
 bk:aT AV
 defers:List (Nat ⊕ (AV×List AV)) -- qg mark of a block,or a call
 fA:Bool -- of a deferred call: 'recover' has b8s called
 deriving Inhabited
def Fr.put(ai:Fr)(d:Option Nat)(v:AV):Fr:=
 match d with
 |some d=>⟨ai.bk.set d v,ai.defers,ai.fA⟩
 |none=>ai
def Fr.oD(ai:Fr)(d:Option Nat)(v:AV):Fr:=Option.rec (motive:=fun _=>Fr) ai (fun d=>⟨aT.Qu v (J_ d) ai.bk,ai.defers,ai.fA⟩) d
inductive hQ where
 |normal|exit (id:Nat)|ret|panic (v:AV)
 deriving Inhabited
inductive dM where
 |ok (v:AV)
 |err (v:AV)
 deriving Inhabited
structure Env where
 funcs:Nat→Option ch
 pd:Nat→Option AV
 pure:Nat→Bool
 spec:Nat→List AV→Option AV
 aV:Nat -- a0B deep values a0C looked at
 ext:Nat→Nat -- 1:b8t,2:b8u,3:b8v;0:none;7:a0y result,objects a0A,is known;8:maps.clone
 vo:Nat→List AV→Option (AV×List AO):=fun _ _=>none
def evalA(env:Env)(ak:aT AV):aC→Option AV
 | .t i=>ak.get i
 | .c v=>some v
 | .g g=>match env.pd g with|some v=>some (.cZ true v)|none=>none
def ze(env:Env)(ak:aT AV)(x:aC):Option AV:=
 aC.rec (motive:=fun _=>Option AV) (fun i=>aT.Fp (J_ i) ak) (fun v=>some v) (fun g=>match env.pd g with|some v=>some (.cZ true v)|none=>none) x
inductive bq where
 |val (v:AV) (I:af)
 |call (b_:AV) (args:List AV)
 |nj (b_:AV) (args:List AV)
 |panic (v:AV)
 |hy (l:List (AV×af)) -- one of a0w
def kk{α β:Type}(f:α→Option (List β))(l:List α):Option (List β):=
 List.rec (motive:=fun _=>Option (List β)) (some []) (fun x t aA=>List.rec (motive:=fun _=>Option (List β)) (f x) (fun _ _ _=>match f x with|none=>none|some a=>match aA with|none=>none|some b=>some (a++b)) t) l
def kl{α β:Type}(r:Option (List α))(f:α→Option (List β)):Option (List β):=Option.rec (motive:=fun _=>Option (List β)) none (fun l=>kk f l) r
def kY(n:Nat)(off:Nat):AV:=.p (some (n,off))
def iR(ao:aC→Option AV)(sz:Nat→Nat→Nat)(ps:List (Nat×Nat×aC)):List AV→Option (List AV):=
 List.rec (fun c=>some c) (fun p _ aA c=>match ao p.2.2 with
  |none=>none
  |some v=>cond (Nat.beq v.cells.length p.2.1&&v.val) (match storeCells c (sz p.1 p.2.1) v.cells with|none=>none|some c=>aA c) none) ps
def fP(n:Nat)(z:List AV):List AV:=Nat.rec [] (fun _ aA=>z++aA) n
def bndO(ao:aC→Option AV)(x:Option aC)(d:Nat):Option Nat:=
 match x with
 |none=>some d
 |some x=>match ao x with|some v=>natOf v|none=>none
def v2(two:Bool)(v:AV)(ok:Bool):AV:=cond two (.bJ [v,.b ok]) v
def nilOk:AV→Bool
 | .p (some _)=>true
 | .cZ _ _=>true
 | .f _ _ _=>true
 | .it _ _=>true
 |_=>false
def dw{α:Type}(p:α→Bool)(l:List α):Bool:=List.rec true (fun x _ aA=>cond (p x) aA false) l
def newOf(I:af)(x:AV):Option (List AV):=
 match x with
 | .s l=>some (l.map fun c=>AV.i .u8 (Int.ofNat c))
 |x=>readList I x
def appendO(floor:Nat)(I:af)(ad:Option Nat)(bytes:Nat)(s x:AV):Option (AV×af):=
 match readList I s,newOf I x with
 |some old,some new=>
  cond (dw (conf ad) old&&dw (conf ad) new&&Nat.ble ((3*(old.length+new.length)+2000)*bytes) 281474976710656)
   (match new with
    |[]=>some (s,I)
    |_::_=>match s with
     | .ak id off len fp cap=>
      if fp=ad then
       match cap with
       |some c=>
        cond (Nat.ble (len+new.length) c)
         (if Nat.blt id floor then none else
         match I.get id with
         |some (.cells bw)=>match storeCells bw (off+len*shN ad) (new.flatMap AV.cells) with
          |some cQ=>some (.ak id off (len+new.length) ad cap,I.set id (.cells cQ))
          |none=>none
         |_=>none)
         (some (.ak I.next 0 (len+new.length) ad none,I.push (.cells (old.flatMap AV.cells++new.flatMap AV.cells))))
       |none=>
        if Nat.blt id floor then none else
        if Nat.beq off 0 then
         some (.ak I.next 0 (len+new.length) ad none,(I.set id .dead).push (.cells (old.flatMap AV.cells++new.flatMap AV.cells)))
        else none
      else none
     | .aB=>some (.ak I.next 0 new.length ad none,I.push (.cells (new.flatMap AV.cells)))
     | .ix _ fp _=>if fp=ad then some (.ak I.next 0 (old.length+new.length) ad none,I.push (.cells (old.flatMap AV.cells++new.flatMap AV.cells))) else none
     |_=>none)
   none
 |_,_=>none
def sliceA(ao:aC→Option AV)(iA:Option Nat)(x:AV)(aK hi c9:Option aC):Option AV:=
 match x with
 | .ak id off len ad cap=>
  if ad=iA then
   match bndO ao aK 0,bndO ao hi len with
   |some l,some h=>
    if Nat.ble l h then
     match c9 with
     |some c9=>match bndO ao (some c9) 0 with
      |some k=>
       if Nat.ble h k&&Nat.ble k (cap.getD len) then some (.ak id (if k=l then off else off+l*shN ad) (h-l) ad (some (k-l))) else none
      |none=>none
     |none=>match cap with
      |some c=>if Nat.ble h c then some (.ak id (if c=l then off else off+l*shN ad) (h-l) ad (some (c-l))) else none
      |none=>if Nat.ble h len&&Nat.beq l 0 then some (.ak id off h ad none) else if Nat.ble h len&&Nat.blt l len then some (.ak id (off+l*shN ad) (h-l) ad none) else if Nat.beq l len&&Nat.beq h len then some (.a7 true ad []) else none
    else none
   |_,_=>none
  else none
 | .aB=>match bndO ao aK 0,bndO ao hi 0,bndO ao c9 0 with
  |some 0,some 0,some 0=>some .aB
  |_,_,_=>none
 | .a7 J ad xs=>if ad=iA then
   match bndO ao aK 0,bndO ao hi xs.length,c9 with
   |some l,some h,none=>if Nat.ble l h&&Nat.ble h xs.length then some (.a7 J ad ((xs.drop l).take (h-l))) else none
   |some l,some h,some c9=>match bndO ao (some c9) 0 with
    |some k=>if Nat.beq l 0&&(Nat.beq h xs.length&&(Nat.beq k xs.length&&Nat.blt 0 xs.length)) then some (.ix J ad xs) else none
    |none=>none
   |_,_,_=>none
  else none
 |_=>none
def lookupA(I:af)(ad:jL)(x k z:AV)(two:Bool):Option AV:=
 cond (keySelf ad k)
  (match x with
  | .m none=>some (v2 two z false)
  | .m (some id)=>match I.get id with
   |some (.map es _)=>match oC ad k es with
    |some (some v)=>some (v2 two v true)
    |some none=>some (v2 two z false)
    |none=>none
   |_=>none
  |_=>none) none
def capA(x:AV):Option Nat:=
 match x with
 | .aB=>some 0
 | .ak _ _ _ _ (some c)=>some c
 |_=>none
def lenA(I:af)(k:Nat)(x:AV):Option Nat:=
 match k,x with
 |0,.s l=>some l.length
 |1,.aB=>some 0
 |1,.ak _ _ n _ _=>some n
 |1,.a7 _ _ xs=>some xs.length
 |2,.m none=>some 0
 |2,.m (some id)=>match I.get id with|some (.map es _)=>some es.length|_=>none
 |_,_=>none
def calleeV(ao:aC→Option AV)(c:sr):Option AV:=match c with| .fn f=>some (AV.f (.func f) [] [])| .val x=>ao x
def nS(I:af)(ad:Option Nat)(p:AV):Option AV:=
 match p with
 | .p (some (id,off))=>match I.get id with
  |some (.cells c)=>fI ad (c.drop off)
  |_=>none
 | .cZ _ v=>if conf ad v then some v else none
 |_=>none
def fieldAddrA(off:Nat)(ad:Option Nat)(x:AV):Option AV:=
 match x with
 | .p (some (id,J))=>some (.p (some (id,J+off)))
 | .cZ ol (.ag cs)=>match fI ad (cs.drop off) with|some v=>some (.cZ ol v)|none=>none
 |_=>none
def idxSlA(iA:Option Nat)(x:AV)(j:Nat):Option AV:=
 match x with
 | .ak id off len ad _=>if Nat.blt j len&&decide (ad=iA) then some (.p (some (id,off+j*shN ad))) else none
 | .a7 J ad xs=>if ad=iA then match nth xs j with|some v=>some (.cZ J v)|none=>none else none
 |_=>none
def assertA(x:AV)(t:TypeId)(z:AV)(two:Bool):Option AV:=
 match x with
 | .it u v=>if u=t then some (v2 two v true) else cond two (some (v2 two z false)) none
 | .fz=>cond two (some (v2 two z false)) none
 |_=>none
def byteOf:AV→Option Nat
 | .i .u8 (.ofNat n)=>cond (Nat.blt n 256) (some n) none
 |_=>none
def oE(n:Nat)(l:List Nat):Bool:=List.rec false (fun x _ aA=>cond (Nat.beq x n) true aA) l
def mM(seen:List Nat)(es:List (AV×AV×Nat)):List (AV×AV×Nat):=List.rec [] (fun e _ aA=>cond (oE e.2.2 seen) aA (e::aA)) es
def qi(l:List Nat):Option Nat:=List.rec none (fun x _ aA=>match aA with|none=>some x|some y=>some y) l
def pe(b:Nat)(es:List (AV×AV×Nat)):Option (AV×AV×Nat):=List.rec none (fun e _ aA=>cond (Nat.beq e.2.2 b) (some e) aA) es
def capO(floor:Nat)(I:af)(x:AV):Option bq:=
 match x with
 | .ak id off len ad none=>cond (Nat.blt id floor) none (match I.get id with
  |some (.cells c)=>cond (Nat.beq c.length (off+len*shN ad)) (some (.hy ((List.range 12).map (fun k=>(AV.i .i64 (Int.ofNat (len+k)),I.set id (.eT c (k*shN ad))))++[(AV.fo (len+12),I.set id (.eT c (12*shN ad)))]))) none
  |_=>none)
 |_=>none
def sliceX(I:af)(ao:aC→Option AV)(iA:Option Nat)(x:AV)(aK hi c9:Option aC):Option bq:=
 match aK,hi,c9 with
 |none,some h,none=>match x,ao h with
  | .ak id off len ad none,some (.i .i64 (.ofNat k))=>match I.get id with
   |some (.eT c r)=>cond (decide (ad=iA)&&(Nat.blt 0 (shN ad)&&(Nat.ble len k&&Nat.ble (off+k*shN ad) (c.length+r)))) (some (.val (.ak id off k ad none) I)) none
   |_=>none
  |_,_=>none
 |_,_,_=>none
def pf(I:af)(id:Nat)(c:List AV)(r off:Nat)(a3:List AV):Option bq:=
 match(cond (Nat.ble c.length off&&Nat.ble (off+a3.length) (c.length+r)) (some c) (storeCells c off a3)) with
 |some c=>some (.val dR (I.set id (.eT c r)))
 |none=>none
def lenU(I:af)(k:Nat)(x:AV):Option bq:=
 match k,x with
 |0,.gD _=>some (.hy [(.iQ true,I),(.iQ false,I)])
 |1,.g1 _ _=>some (.val (.fo 0) I)
 |_,_=>none
def opx(floor:Nat)(ao:aC→Option AV)(I:af)(op:AOp):Option bq:=
 match op with
 | .b6 x=>match ao x with|some v=>some (.val v I)|none=>none
 | .pick c a b=>match ao c with
  |some (.b t)=>match ao (cond t a b) with|some v=>some (.val v I)|none=>none
  |_=>none
 | .alloc v=>some (.val (kY I.next 0) (I.push (.cells v.cells)))
 | .box x=>match ao x with|some v=>cond v.val (some (.val (kY I.next 0) (I.push (.cells v.cells)))) none|none=>none
 | .build z ps=>match iR ao (fun off _=>off) ps z with|some c=>some (.val (.ag c) I)|none=>none
 | .buildSlice ad n z ps=>
  match iR ao (fun i sz=>i*sz) (ps.map fun p=>(p.1,shN ad,p.2)) (fP n z) with
  |some c=>some (.val (.ak I.next 0 n ad (some n)) (I.push (.cells c)))
  |none=>none
 | .load ad a=>match ao a with
  |some p=>match nS I ad p with|some v=>some (.val v I)|none=>none
  |none=>none
 | .store ad a x=>match ao a,ao x with
  |some (.p (some (id,off))),some v=>
   if Nat.blt id floor then none else
   if conf ad v then
    match I.get id with
    |some (.cells c)=>match storeCells c off v.cells with
     |some c=>some (.val dR (I.set id (.cells c)))
     |none=>none
    |some (.eT c r)=>pf I id c r off v.cells
    |_=>none
   else none
  |_,_=>none
 | .nilCheck x=>match ao x with
  |some v=>cond (nilOk v) (some (.val v I)) none
  |none=>none
 | .bin op x y=>match ao x,ao y with
  |some a,some b=>match binop op a b with|some v=>some (.val v I)|none=>none
  |_,_=>none
 | .w5 neg x y=>match ao x,ao y with
  |some a,some b=>match binopB a b with|some v=>some (.val (.b (cond neg (!v) v)) I)|none=>none
  |_,_=>none
 | .lN kind neg x y=>match ao x,ao y with
  |some a,some b=>match isNilEq kind a b with|some v=>some (.val (.b (cond neg (!v) v)) I)|none=>none
  |_,_=>none
 | .not x=>match ao x with|some (.b x)=>some (.val (.b !x) I)|_=>none
 | .neg x=>match ao x with|some (.i k n)=>some (.val (.i k (k.wrap (0-n))) I)|_=>none
 | .conv k x=>match ao x with|some (.i _ n)=>some (.val (.i k (wrapN k n)) I)|some (.h4 _ d j)=>(match k with| .i64=>some (.val (.h4 .i64 d j) I)|_=>none)|_=>none
 | .BD t x=>match ao x with|some v=>some (.val (.it t v) I)|none=>none
 | .vn fn a c=>match mapO ao a,mapO ao c with|some a,some c=>some (.val (.f fn a c) I)|_,_=>none
 | .mkMap=>some (.val (.m (some I.next)) (I.push (.map [] 0)))
 | .kX iA x aK hi c9=>match ao x with
  |some x=>match sliceA ao iA x aK hi c9 with|some v=>some (.val v I)|none=>sliceX I ao iA x aK hi c9
  |none=>none
 | .BE x aK hi=>match ao x with
  |some (.s s)=>match bndO ao aK 0,bndO ao hi s.length with
   |some l,some h=>if Nat.ble l h&&Nat.ble h s.length then some (.val (.s ((s.drop l).take (h-l))) I) else none
   |_,_=>none
  |_=>none
 | .zc n ad x aK hi=>match ao x,bndO ao aK 0,bndO ao hi n with
  |some (.p (some (id,off))),some l,some h=>
   if Nat.ble l h&&Nat.ble h n then
    match I.get id with
    |some (.cells c)=>if Nat.ble (off+n*shN ad) c.length then some (.val (.ak id (if n=l then off else off+l*shN ad) (h-l) ad (some (n-l))) I) else none
    |_=>none
   else none
  |_,_,_=>none
 | .fieldAddr off ad x=>match ao x with
  |some x=>match fieldAddrA off ad x with|some v=>some (.val v I)|none=>none
  |none=>none
 | .field off ad x=>match ao x with
  |some (.ag cs)=>match fI ad (cs.drop off) with|some v=>some (.val v I)|none=>none
  |_=>none
 | .Fk n ad x i=>match ao x,ao i with
  |some x,some j=>match natOf j with
   |some j=>if Nat.blt j n then match fieldAddrA (j*shN ad) ad x with|some v=>some (.val v I)|none=>none else none
   |none=>none
  |_,_=>none
 | .cK iA x i=>match ao x,ao i with
  |some x,some j=>match natOf j with
   |some j=>match idxSlA iA x j with|some v=>some (.val v I)|none=>none
   |none=>none
  |_,_=>none
 | .J8 x i=>match ao x,ao i with
  |some (.s l),some j=>match natOf j with
   |some j=>match nth l j with|some c=>some (.val (.i .u8 (Int.ofNat c)) I)|none=>none
   |none=>none
  |_,_=>none
 | .J9 n ad x i=>match ao x,ao i with
  |some (.ag cs),some j=>match natOf j with
   |some j=>if Nat.blt j n then match fI ad (cs.drop (j*shN ad)) with|some v=>some (.val v I)|none=>none else none
   |none=>none
  |_,_=>none
 | .lookup ad x k z two=>match ao x,ao k with
  |some x,some k=>match lookupA I ad x k z two with|some v=>some (.val v I)|none=>none
  |_,_=>none
 | .pc ad x k v=>match ao x,ao k,ao v with
  |some (.m (some id)),some k,some v=>
   if Nat.blt id floor then none else
   match I.get id with
   |some (.map es aL)=>match keyEq ad k k with
    |none=>none
    |some _=>match nR ad k v es with
    |some (some es)=>some (.val dR (I.set id (.map es aL)))
    |some none=>some (.val dR (I.set id (.map (es++[(k,v,aL)]) (aL+1))))
    |none=>none
   |_=>none
  |_,_,_=>none
 | .Fl x t z two=>match ao x with
  |some x=>match assertA x t z two with|some v=>some (.val v I)|none=>none
  |none=>none
 | .extract x i=>match ao x with
  |some (.bJ l)=>match nth l i with|some v=>some (.val v I)|none=>none
  |_=>none
 | .call c args=>match calleeV ao c,mapO ao args with
  |some b_,some args=>some (.call b_ args)
  |_,_=>none
 | .nj c args=>match calleeV ao c,mapO ao args with
  |some b_,some args=>some (.nj b_ args)
  |_,_=>none
 | .panic x=>match ao x with|some (.it t v)=>some (.panic (.it t v))|_=>none
 | .len k x=>match ao x with
  |some x=>match lenA I k x with|some n=>some (.val (.i .i64 (Int.ofNat n)) I)|none=>lenU I k x
  |none=>none
 | .Fo n=>some (.val (.i .i64 (Int.ofNat n)) I)
 | .cap x=>match ao x with
  |some x=>match capA x with|some n=>some (.val (.i .i64 (Int.ofNat n)) I)|none=>capO floor I x
  |none=>none
 | .append ad bytes s x=>match ao s,ao x with
  |some s,some x=>match appendO floor I ad bytes s x with|some (v,I)=>some (.val v I)|none=>none
  |_,_=>none
 | .Fj x=>match ao x with
  |some (.s l)=>some (.val (.ak I.next 0 l.length none none) (I.push (.cells (l.map fun c=>AV.i .u8 (Int.ofNat c)))))
  |_=>none
 | .BC x=>match ao x with
  |some x=>match readList I x with
   |some l=>match mapO byteOf l with
    |some l=>some (.val (.s l) I)
    |none=>none
   |none=>none
  |none=>none
 | .mkSlice ad bytes z l c=>match ao l,ao c with
  |some (.i _ (.ofNat n)),some (.i _ (.ofNat m))=>
   cond (Nat.beq z.length (shN ad)&&(Nat.ble n m&&(Nat.ble (bytes*m) 281474976710656&&Nat.ble m 281474976710656)))
    (some (.val (.ak I.next 0 n ad (some m)) (I.push (.cells (fP m z))))) none
  |some .aB,some (.i _ (.ofNat m))=>
   cond (Nat.beq z.length (Nat.succ (shN ad))&&(Nat.blt 0 m&&Nat.ble ((3*m+2000)*bytes) 281474976710656))
    (some (.val (.ak I.next 0 m ad none) (I.push (.cells (fP m z.tail))))) none
  |_,_=>none
 | .rangeMap x=>match ao x with
  |some (.m none)=>some (.val (kY I.next 0) (I.push (.mapIter none 0 [] 0)))
  |some (.m (some id))=>match I.get id with
   |some (.map _ aL)=>some (.val (kY I.next 0) (I.push (.mapIter (some id) aL [] aL)))
   |_=>none
  |_=>none
 | .ss x=>match ao x with
  |some (.p (some (it,0)))=>if Nat.blt it floor then none else
   match I.get it with
   |some (.mapIter none _ _ _)=>some (.val (.bJ [.b false]) I)
   |some (.mapIter (some id) since seen hk)=>match I.get id with
    |some (.map es aL)=>
     cond (Nat.beq aL since&&Nat.beq hk since&&dw (fun(e:AV×AV×Nat)=>Nat.blt e.2.2 since) es)
      (match mM seen es with
       |[]=>some (.val (.bJ [.b false]) I)
       |l=>some (.hy (l.map fun e=>(.bJ [.b true,e.1,e.2.1],I.set it (.mapIter (some id) since (seen++[e.2.2]) aL))))) none
    |_=>none
   |_=>none
  |_=>none
 | .entry x=>match ao x with
  |some (.p (some (it,0)))=>match I.get it with
   |some (.mapIter (some id) since seen hk)=>match I.get id with
    |some (.map es aL)=>cond (Nat.beq aL hk) (match qi seen with
     |some b=>match pe b es with
      |some e=>some (.val (.bJ [e.1,e.2.1]) I)
      |none=>none
     |none=>none) none
    |_=>none
   |_=>none
  |_=>none
 | .copy _ d x=>match ao d,ao x with
  |some (.ak _ _ 0 _ _),some (.ag _)=>some (.val dR I)
  |some (.ak id off (len+1) _ _),some (.ag z)=>match Nat.blt id floor,I.get id with
   |false,some (.cells c)=>match storeCells c off (fP (len+1) z) with
    |some c=>some (.val dR (I.set id (.cells c)))
    |none=>none
   |_,_=>none
  |some .aB,some (.ag _)=>some (.val dR I)
  |some (.a7 _ _ []),some (.ag _)=>some (.val dR I)
  |_,_=>none
 | .lO c9 x y=>match ao x,ao y with
  |some (.i k a),some (.i l b)=>if k=l then some (.val (.i k (if c9 then(if b > a then b else a) else(if b<a then b else a))) I) else none
  |some (.fo n),some (.i .i64 (.ofNat j))=>cond (Bool.not c9&&Nat.ble j n) (some (.val (.i .i64 (Int.ofNat j)) I)) none
  |some (.i .i64 (.ofNat j)),some (.fo n)=>cond (Bool.not c9&&Nat.ble j n) (some (.val (.i .i64 (Int.ofNat j)) I)) none
  |_,_=>none
 |_=>none
abbrev Ka:=Nat→(aC→Option AV)→af→Option bq
def a0D(x:aC)(floor:Nat)(ao:aC→Option AV)(I:af):Option bq:=
  match ao x with|some v=>some (.val v I)|none=>none
def a0E(c:aC)(a:aC)(b:aC)(floor:Nat)(ao:aC→Option AV)(I:af):Option bq:=
  match ao c with
  |some (.b t)=>match ao (cond t a b) with|some v=>some (.val v I)|none=>none
  |_=>none
def a0F(v:AV)(floor:Nat)(ao:aC→Option AV)(I:af):Option bq:=
  some (.val (kY I.next 0) (I.push (.cells v.cells)))
def a0G(x:aC)(floor:Nat)(ao:aC→Option AV)(I:af):Option bq:=
  match ao x with|some v=>cond v.val (some (.val (kY I.next 0) (I.push (.cells v.cells)))) none|none=>none
def a0H(z:List AV)(ps:List (Nat×Nat×aC))(floor:Nat)(ao:aC→Option AV)(I:af):Option bq:=
  match iR ao (fun off _=>off) ps z with|some c=>some (.val (.ag c) I)|none=>none
def a0I(ad:Option Nat)(n:Nat)(z:List AV)(ps:List (Nat×aC))(floor:Nat)(ao:aC→Option AV)(I:af):Option bq:=
  match iR ao (fun i sz=>i*sz) (ps.map fun p=>(p.1,shN ad,p.2)) (fP n z) with
  |some c=>some (.val (.ak I.next 0 n ad (some n)) (I.push (.cells c)))
  |none=>none
def a0J(ad:Option Nat)(a:aC)(floor:Nat)(ao:aC→Option AV)(I:af):Option bq:=
  match ao a with
  |some p=>match nS I ad p with|some v=>some (.val v I)|none=>none
  |none=>none
def a0K(ad:Option Nat)(a:aC)(x:aC)(floor:Nat)(ao:aC→Option AV)(I:af):Option bq:=
  match ao a,ao x with
  |some (.p (some (id,off))),some v=>
   if Nat.blt id floor then none else
   if conf ad v then
    match I.get id with
    |some (.cells c)=>match storeCells c off v.cells with
     |some c=>some (.val dR (I.set id (.cells c)))
     |none=>none
    |some (.eT c r)=>pf I id c r off v.cells
    |_=>none
   else none
  |_,_=>none
def a0L(x:aC)(floor:Nat)(ao:aC→Option AV)(I:af):Option bq:=
  match ao x with
  |some v=>cond (nilOk v) (some (.val v I)) none
  |none=>none
def a0M(op:BinOp)(x:aC)(y:aC)(floor:Nat)(ao:aC→Option AV)(I:af):Option bq:=
  match ao x,ao y with
  |some a,some b=>match binop op a b with|some v=>some (.val v I)|none=>none
  |_,_=>none
def a0N(neg:Bool)(x:aC)(y:aC)(floor:Nat)(ao:aC→Option AV)(I:af):Option bq:=
  match ao x,ao y with
  |some a,some b=>match binopB a b with|some v=>some (.val (.b (cond neg (!v) v)) I)|none=>none
  |_,_=>none
def a0O(kind:Nat)(neg:Bool)(x:aC)(y:aC)(floor:Nat)(ao:aC→Option AV)(I:af):Option bq:=
  match ao x,ao y with
  |some a,some b=>match isNilEq kind a b with|some v=>some (.val (.b (cond neg (!v) v)) I)|none=>none
  |_,_=>none
def a0P(x:aC)(floor:Nat)(ao:aC→Option AV)(I:af):Option bq:=
  match ao x with|some (.b x)=>some (.val (.b !x) I)|_=>none
def a0Q(x:aC)(floor:Nat)(ao:aC→Option AV)(I:af):Option bq:=
  match ao x with|some (.i k n)=>some (.val (.i k (k.wrap (0-n))) I)|_=>none
def a0R(k:IntKind)(x:aC)(floor:Nat)(ao:aC→Option AV)(I:af):Option bq:=
  match ao x with|some (.i _ n)=>some (.val (.i k (wrapN k n)) I)|some (.h4 _ d j)=>(match k with| .i64=>some (.val (.h4 .i64 d j) I)|_=>none)|_=>none
def a0S(t:TypeId)(x:aC)(floor:Nat)(ao:aC→Option AV)(I:af):Option bq:=
  match ao x with|some v=>some (.val (.it t v) I)|none=>none
def a0T(fn:Fn)(a:List aC)(c:List aC)(floor:Nat)(ao:aC→Option AV)(I:af):Option bq:=
  match mapO ao a,mapO ao c with|some a,some c=>some (.val (.f fn a c) I)|_,_=>none
def a0U(floor:Nat)(ao:aC→Option AV)(I:af):Option bq:=
  some (.val (.m (some I.next)) (I.push (.map [] 0)))
def a0V(iA:Option Nat)(x:aC)(aK:Option aC)(hi:Option aC)(c9:Option aC)(floor:Nat)(ao:aC→Option AV)(I:af):Option bq:=
  match ao x with
  |some x=>match sliceA ao iA x aK hi c9 with|some v=>some (.val v I)|none=>sliceX I ao iA x aK hi c9
  |none=>none
def a0W(x:aC)(aK:Option aC)(hi:Option aC)(floor:Nat)(ao:aC→Option AV)(I:af):Option bq:=
  match ao x with
  |some (.s s)=>match bndO ao aK 0,bndO ao hi s.length with
   |some l,some h=>if Nat.ble l h&&Nat.ble h s.length then some (.val (.s ((s.drop l).take (h-l))) I) else none
   |_,_=>none
  |_=>none
def a0X(n:Nat)(ad:Option Nat)(x:aC)(aK:Option aC)(hi:Option aC)(floor:Nat)(ao:aC→Option AV)(I:af):Option bq:=
  match ao x,bndO ao aK 0,bndO ao hi n with
  |some (.p (some (id,off))),some l,some h=>
   if Nat.ble l h&&Nat.ble h n then
    match I.get id with
    |some (.cells c)=>if Nat.ble (off+n*shN ad) c.length then some (.val (.ak id (if n=l then off else off+l*shN ad) (h-l) ad (some (n-l))) I) else none
    |_=>none
   else none
  |_,_,_=>none
def a0Y(off:Nat)(ad:Option Nat)(x:aC)(floor:Nat)(ao:aC→Option AV)(I:af):Option bq:=
  match ao x with
  |some x=>match fieldAddrA off ad x with|some v=>some (.val v I)|none=>none
  |none=>none
def a0Z(off:Nat)(ad:Option Nat)(x:aC)(floor:Nat)(ao:aC→Option AV)(I:af):Option bq:=
  match ao x with
  |some (.ag cs)=>match fI ad (cs.drop off) with|some v=>some (.val v I)|none=>none
  |_=>none
def a1a(n:Nat)(ad:Option Nat)(x:aC)(i:aC)(floor:Nat)(ao:aC→Option AV)(I:af):Option bq:=
  match ao x,ao i with
  |some x,some j=>match natOf j with
   |some j=>if Nat.blt j n then match fieldAddrA (j*shN ad) ad x with|some v=>some (.val v I)|none=>none else none
   |none=>none
  |_,_=>none
def a1b(iA:Option Nat)(x:aC)(i:aC)(floor:Nat)(ao:aC→Option AV)(I:af):Option bq:=
  match ao x,ao i with
  |some x,some j=>match natOf j with
   |some j=>match idxSlA iA x j with|some v=>some (.val v I)|none=>none
   |none=>none
  |_,_=>none
def a1c(x:aC)(i:aC)(floor:Nat)(ao:aC→Option AV)(I:af):Option bq:=
  match ao x,ao i with
  |some (.s l),some j=>match natOf j with
   |some j=>match nth l j with|some c=>some (.val (.i .u8 (Int.ofNat c)) I)|none=>none
   |none=>none
  |_,_=>none
def a1d(n:Nat)(ad:Option Nat)(x:aC)(i:aC)(floor:Nat)(ao:aC→Option AV)(I:af):Option bq:=
  match ao x,ao i with
  |some (.ag cs),some j=>match natOf j with
   |some j=>if Nat.blt j n then match fI ad (cs.drop (j*shN ad)) with|some v=>some (.val v I)|none=>none else none
   |none=>none
  |_,_=>none
def a1e(ad:Nat ⊕ List Nat)(x:aC)(k:aC)(z:AV)(two:Bool)(floor:Nat)(ao:aC→Option AV)(I:af):Option bq:=
  match ao x,ao k with
  |some x,some k=>match lookupA I ad x k z two with|some v=>some (.val v I)|none=>none
  |_,_=>none
def a1f(ad:Nat ⊕ List Nat)(x:aC)(k:aC)(v:aC)(floor:Nat)(ao:aC→Option AV)(I:af):Option bq:=
  match ao x,ao k,ao v with
  |some (.m (some id)),some k,some v=>
   if Nat.blt id floor then none else
   match I.get id with
   |some (.map es aL)=>match keyEq ad k k with
    |none=>none
    |some _=>match nR ad k v es with
    |some (some es)=>some (.val dR (I.set id (.map es aL)))
    |some none=>some (.val dR (I.set id (.map (es++[(k,v,aL)]) (aL+1))))
    |none=>none
   |_=>none
  |_,_,_=>none
def a1g(x:aC)(t:TypeId)(z:AV)(two:Bool)(floor:Nat)(ao:aC→Option AV)(I:af):Option bq:=
  match ao x with
  |some x=>match assertA x t z two with|some v=>some (.val v I)|none=>none
  |none=>none
def a1h(x:aC)(i:Nat)(floor:Nat)(ao:aC→Option AV)(I:af):Option bq:=
  match ao x with
  |some (.bJ l)=>match nth l i with|some v=>some (.val v I)|none=>none
  |_=>none
def a1i(c:sr)(args:List aC)(floor:Nat)(ao:aC→Option AV)(I:af):Option bq:=
  match calleeV ao c,mapO ao args with
  |some b_,some args=>some (.call b_ args)
  |_,_=>none
def a1j(c:sr)(args:List aC)(floor:Nat)(ao:aC→Option AV)(I:af):Option bq:=
  match calleeV ao c,mapO ao args with
  |some b_,some args=>some (.nj b_ args)
  |_,_=>none
def a1k(x:aC)(floor:Nat)(ao:aC→Option AV)(I:af):Option bq:=
  match ao x with|some (.it t v)=>some (.panic (.it t v))|_=>none
def a1l(k:Nat)(x:aC)(floor:Nat)(ao:aC→Option AV)(I:af):Option bq:=
  match ao x with
  |some x=>match lenA I k x with|some n=>some (.val (.i .i64 (Int.ofNat n)) I)|none=>lenU I k x
  |none=>none
def a1m(n:Nat)(floor:Nat)(ao:aC→Option AV)(I:af):Option bq:=
  some (.val (.i .i64 (Int.ofNat n)) I)
def a1n(x:aC)(floor:Nat)(ao:aC→Option AV)(I:af):Option bq:=
  match ao x with
  |some x=>match capA x with|some n=>some (.val (.i .i64 (Int.ofNat n)) I)|none=>capO floor I x
  |none=>none
def a1o(ad:Option Nat)(bytes:Nat)(s:aC)(x:aC)(floor:Nat)(ao:aC→Option AV)(I:af):Option bq:=
  match ao s,ao x with
  |some s,some x=>match appendO floor I ad bytes s x with|some (v,I)=>some (.val v I)|none=>none
  |_,_=>none
def a1p(x:aC)(floor:Nat)(ao:aC→Option AV)(I:af):Option bq:=
  match ao x with
  |some (.s l)=>some (.val (.ak I.next 0 l.length none none) (I.push (.cells (l.map fun c=>AV.i .u8 (Int.ofNat c)))))
  |_=>none
def a1q(x:aC)(floor:Nat)(ao:aC→Option AV)(I:af):Option bq:=
  match ao x with
  |some x=>match readList I x with
   |some l=>match mapO byteOf l with
    |some l=>some (.val (.s l) I)
    |none=>none
   |none=>none
  |none=>none
def a1r(ad:Option Nat)(bytes:Nat)(z:List AV)(l:aC)(c:aC)(floor:Nat)(ao:aC→Option AV)(I:af):Option bq:=
  match ao l,ao c with
  |some (.i _ (.ofNat n)),some (.i _ (.ofNat m))=>
   cond (Nat.beq z.length (shN ad)&&(Nat.ble n m&&(Nat.ble (bytes*m) 281474976710656&&Nat.ble m 281474976710656)))
    (some (.val (.ak I.next 0 n ad (some m)) (I.push (.cells (fP m z))))) none
  |some .aB,some (.i _ (.ofNat m))=>
   cond (Nat.beq z.length (Nat.succ (shN ad))&&(Nat.blt 0 m&&Nat.ble ((3*m+2000)*bytes) 281474976710656))
    (some (.val (.ak I.next 0 m ad none) (I.push (.cells (fP m z.tail))))) none
  |_,_=>none
def a1s(x:aC)(floor:Nat)(ao:aC→Option AV)(I:af):Option bq:=
  match ao x with
  |some (.m none)=>some (.val (kY I.next 0) (I.push (.mapIter none 0 [] 0)))
  |some (.m (some id))=>match I.get id with
   |some (.map _ aL)=>some (.val (kY I.next 0) (I.push (.mapIter (some id) aL [] aL)))
   |_=>none
  |_=>none
def a1t(x:aC)(floor:Nat)(ao:aC→Option AV)(I:af):Option bq:=
  match ao x with
  |some (.p (some (it,0)))=>if Nat.blt it floor then none else
   match I.get it with
   |some (.mapIter none _ _ _)=>some (.val (.bJ [.b false]) I)
   |some (.mapIter (some id) since seen hk)=>match I.get id with
    |some (.map es aL)=>
     cond (Nat.beq aL since&&Nat.beq hk since&&dw (fun(e:AV×AV×Nat)=>Nat.blt e.2.2 since) es)
      (match mM seen es with
       |[]=>some (.val (.bJ [.b false]) I)
       |l=>some (.hy (l.map fun e=>(.bJ [.b true,e.1,e.2.1],I.set it (.mapIter (some id) since (seen++[e.2.2]) aL))))) none
    |_=>none
   |_=>none
  |_=>none
def a1u(x:aC)(floor:Nat)(ao:aC→Option AV)(I:af):Option bq:=
  match ao x with
  |some (.p (some (it,0)))=>match I.get it with
   |some (.mapIter (some id) since seen hk)=>match I.get id with
    |some (.map es aL)=>cond (Nat.beq aL hk) (match qi seen with
     |some b=>match pe b es with
      |some e=>some (.val (.bJ [e.1,e.2.1]) I)
      |none=>none
     |none=>none) none
    |_=>none
   |_=>none
  |_=>none
def a1v(_sh:Option Nat)(d:aC)(x:aC)(floor:Nat)(ao:aC→Option AV)(I:af):Option bq:=
  match ao d,ao x with
  |some (.ak _ _ 0 _ _),some (.ag _)=>some (.val dR I)
  |some (.ak id off (len+1) _ _),some (.ag z)=>match Nat.blt id floor,I.get id with
   |false,some (.cells c)=>match storeCells c off (fP (len+1) z) with
    |some c=>some (.val dR (I.set id (.cells c)))
    |none=>none
   |_,_=>none
  |some .aB,some (.ag _)=>some (.val dR I)
  |some (.a7 _ _ []),some (.ag _)=>some (.val dR I)
  |_,_=>none
def a1w(c9:Bool)(x:aC)(y:aC)(floor:Nat)(ao:aC→Option AV)(I:af):Option bq:=
  match ao x,ao y with
  |some (.i k a),some (.i l b)=>if k=l then some (.val (.i k (if c9 then(if b > a then b else a) else(if b<a then b else a))) I) else none
  |some (.fo n),some (.i .i64 (.ofNat j))=>cond (Bool.not c9&&Nat.ble j n) (some (.val (.i .i64 (Int.ofNat j)) I)) none
  |some (.i .i64 (.ofNat j)),some (.fo n)=>cond (Bool.not c9&&Nat.ble j n) (some (.val (.i .i64 (Int.ofNat j)) I)) none
  |_,_=>none
def Qx:Ka:=fun _ _ _=>none
def vp(op:AOp):Ka:=
 AOp.rec (motive:=fun _=>Ka) a0D a0E a0F a0G a0H a0I a0J a0K a0L a0M a0N a0O a0P a0Q a0R a1p a1q a0S a0T a0U a1r a0X a0V a0W a0Y a0Z a1a a1b a1c a1d a1e a1f a1s a1t a1u a1g a1h a1i a1j a1k a1o a1l a1m a1n a1v a1w Qx Qx op
def AOp.isRec(op:AOp):Bool:=
 AOp.rec (motive:=fun _=>Bool) (fun _=>false) (fun _ _ _=>false) (fun _=>false) (fun _=>false) (fun _ _=>false) (fun _ _ _ _=>false) (fun _ _=>false) (fun _ _ _=>false) (fun _=>false) (fun _ _ _=>false) (fun _ _ _=>false) (fun _ _ _ _=>false) (fun _=>false) (fun _=>false) (fun _ _=>false) (fun _=>false) (fun _=>false) (fun _ _=>false) (fun _ _ _=>false) false (fun _ _ _ _ _=>false) (fun _ _ _ _ _=>false) (fun _ _ _ _ _=>false) (fun _ _ _=>false) (fun _ _ _=>false) (fun _ _ _=>false) (fun _ _ _ _=>false) (fun _ _ _=>false) (fun _ _=>false) (fun _ _ _ _=>false) (fun _ _ _ _ _=>false) (fun _ _ _ _=>false) (fun _=>false) (fun _=>false) (fun _=>false) (fun _ _ _ _=>false) (fun _ _=>false) (fun _ _=>false) (fun _ _=>false) (fun _=>false) (fun _ _ _ _=>false) (fun _ _=>false) (fun _=>false) (fun _=>false) (fun _ _ _=>false) (fun _ _ _=>false) true false op
def wantedA(g:Option (Nat×Bool))(ak:aT AV):Bool:=
 match g with
 |none=>true
 |some (d,w)=>match ak.get d with
  |some (.b x)=>x==w
  |_=>false
def Fs(g:Option (Nat×Bool))(ak:aT AV):Bool:=
 Option.rec (motive:=fun _=>Bool) true (fun p=>match aT.Fp (J_ p.1) ak with
  |some (.b x)=>x==p.2
  |_=>false) g
abbrev jv:=Nat→Option Nat→bB→Fr→af→Option (List (hQ×Fr×af))
def resultOf(I:af)(ak:aT AV)(r:Nat×Option (Option Nat)):Option AV:=
 match ak.get r.1,r.2 with
 |some v,none=>some v
 |some (.p (some (id,off))),some ad=>match I.get id with
  |some (.cells c)=>fI ad (c.drop off)
  |_=>none
 |_,_=>none
def resultsOf(I:af)(ak:aT AV)(rs:List (Nat×Option (Option Nat))):Option AV:=
 match mapO (resultOf I ak) rs with
 |some [v]=>some v
 |some a3=>some (.bJ a3)
 |none=>none
def tU(fn:ch)(args:List AV):Fr:=⟨aT.lay args 0 (aT.full fn.ntmps dR fn.ntmps),[],false⟩
def isFn:AV→Bool
 | .f (.func _) _ _=>true
 |_=>false
def q_(env:Env)(floor:Nat)(call:AV→List AV→af→Option (dM×af))(rc:Option AV)(eg:Bool)(ops:List a1):Fr→af→Option (hQ×Fr×af):=
 List.rec (fun ai I=>some (.normal,ai,I)) (fun J _ aA ai I=>
  cond (wantedA J.guard ai.bk)
   (cond J.op.isRec
    (match rc with
     |some v=>aA (Fr.put ⟨ai.bk,ai.defers,true⟩ J.dst (cond ai.fA .fz v)) I
     |none=>none)
    (match vp J.op floor (evalA env ai.bk) I with
     |some (.val v I)=>aA (ai.put J.dst v) I
     |some (.call b_ args)=>match call b_ args I with
      |some (.ok v,I)=>aA (ai.put J.dst v) I
      |some (.err v,I)=>some (.panic v,ai,I)
      |none=>none
     |some (.nj b_ args)=>cond (eg&&isFn b_) (aA (Fr.put ⟨ai.bk,.inr (b_,args)::ai.defers,ai.fA⟩ J.dst dR) I) none
     |some (.panic v)=>some (.panic v,ai,I)
     |some (.hy _)=>none
     |none=>none))
   (aA (ai.put J.dst dR) I)) ops
abbrev oF:=List (hQ×Fr×af)
abbrev nk:=AV→List AV→af→Option (List (dM×af))
def runOps(env:Env)(floor:Nat)(call:nk)(eg:Bool)(ops:List a1):Fr→af→Option oF:=
 List.rec (motive:=fun _=>Fr→af→Option oF) (fun ai I=>some [(.normal,ai,I)]) (fun J _ aA ai I=>
  Bool.rec (motive:=fun _=>Option oF) (aA (ai.oD J.dst dR) I)
   (Option.rec (motive:=fun _=>Option oF) none (fun r=>bq.rec (motive:=fun _=>Option oF)
    (fun v I=>aA (ai.oD J.dst v) I)
    (fun b_ args=>kl (call b_ args I) (fun r=>match r with
     |(.ok v,I)=>aA (ai.oD J.dst v) I
     |(.err v,I)=>some [(.panic v,ai,I)]))
    (fun b_ args=>cond (eg&&isFn b_) (aA (Fr.oD ⟨ai.bk,.inr (b_,args)::ai.defers,ai.fA⟩ J.dst dR) I) none)
    (fun v=>some [(.panic v,ai,I)])
    (fun l=>kk (fun p=>aA (ai.oD J.dst p.1) p.2) l) r)
    (vp J.op floor (ze env ai.bk) I))
   (Fs J.guard ai.bk)) ops
def AOp.fW:AOp→Bool
 | .store _ _ _| .pc _ _ _ _| .call _ _| .append _ _ _ _| .copy _ _ _| .mkSlice _ _ _ _ _| .Fj _| .rangeMap _| .ss _| .nj _ _| .panic _| .recover=>true
 |_=>false
def AOp.lh:AOp→Bool
 | .alloc _| .box _| .buildSlice _ _ _ _| .mkMap=>true
 |_=>false
def AOp.looks:AOp→Bool
 | .load _ _| .lookup _ _ _ _ _| .len _ _| .entry _| .BC _| .zc _ _ _ _ _| .kX _ _ none (some _) none=>true
 |_=>false
def pg{α:Type}:Option α→List α
 |none=>[]
 |some x=>[x]
def AOp.opnds:AOp→List aC
 | .b6 x=>[x]| .pick c a b=>[c,a,b]| .alloc _=>[]| .box x=>[x]| .build _ ps=>ps.map (·.2.2)| .buildSlice _ _ _ ps=>ps.map (·.2)
 | .load _ a=>[a]| .store _ a x=>[a,x]| .nilCheck x=>[x]| .bin _ x y=>[x,y]| .w5 _ x y=>[x,y]| .lN _ _ x y=>[x,y]| .not x=>[x]| .neg x=>[x]| .conv _ x=>[x]
 | .Fj x=>[x]| .BC x=>[x]| .BD _ x=>[x]| .vn _ a c=>a++c| .mkMap=>[]| .mkSlice _ _ _ l c=>[l,c]
 | .zc _ _ x l h=>x::(pg l++pg h)| .kX _ x l h m=>x::(pg l++(pg h++pg m))| .BE x l h=>x::(pg l++pg h)
 | .fieldAddr _ _ x=>[x]| .field _ _ x=>[x]| .Fk _ _ x i=>[x,i]| .cK _ x i=>[x,i]| .J8 x i=>[x,i]| .J9 _ _ x i=>[x,i]
 | .lookup _ x k _ _=>[x,k]| .pc _ m k v=>[m,k,v]| .rangeMap x=>[x]| .ss x=>[x]| .entry x=>[x]| .Fl x _ _ _=>[x]| .extract x _=>[x]
 | .call c as=>(match c with| .fn _=>[]| .val J=>[J])++as| .nj c as=>(match c with| .fn _=>[]| .val J=>[J])++as
 | .panic x=>[x]| .append _ _ s x=>[s,x]| .len _ x=>[x]| .Fo _=>[]| .cap x=>[x]| .copy _ d s=>[d,s]| .lO _ x y=>[x,y]| .recover=>[]| .bad=>[]
def aC.tmp:aC→Option Nat
 | .t i=>some i
 |_=>none
def a1.reads(J:a1):List Nat:=(match J.guard with|some (d,_)=>[d]|none=>[])++J.op.opnds.filterMap aC.tmp
abbrev oG:=a1×aT AV×AV
abbrev j2:=Fr×List af×List oG×af
def runDraws(env:Env)(floor:Nat)(call:nk)(ops:List a1):Fr→List af→List oG→af→Option (List j2):=
 List.rec (fun ai da ws I=>some [(ai,da,ws,I)]) (fun J _ aA ai da ws I=>
  cond (Fs J.guard ai.bk)
   (match vp J.op floor (ze env ai.bk) I with
    |some (.val v aq)=>aA (ai.oD J.dst v) (I::da) (match J.lg with|[]=>ws|_::_=>(J,ai.bk,v)::ws) aq
    |some (.call b_ args)=>match call b_ args I with
     |some (x::l)=>kk (fun r=>match r with|(.ok v,aq)=>aA (ai.oD J.dst v) (I::da) ws aq|_=>none) (x::l)
     |_=>none
    |_=>none)
   (aA (ai.oD J.dst dR) (I::da) ws I)) ops
def steady(env:Env)(floor:Nat)(da:List af)(w:oG):Bool:=
 dw (fun q=>match nth da q with
  |some I=>match vp w.1.op floor (evalA env w.2.1) I with
   |some (.val v _)=>AV.eqb env.aV v w.2.2
   |_=>false
  |none=>false) w.1.lg
def swapOk(env:Env)(ak:aT AV)(ops:List a1):Bool:=
 match ops.reverse with
 |y::x::_=>match y.lg with
  |[]=>true
  |_::_=>match y.op with
   | .store _ b _=>match x.op with
    | .store _ a _=>match evalA env ak a,evalA env ak b with
     |some (.p (some (i,_))),some (.p (some (j,_)))=>!Nat.beq i j
     |_,_=>false
    |_=>false
   |_=>true
 |_=>true
def leave(floor:Nat)(call:AV→List AV→AV→af→Option (Bool×af))(ds:List (Nat ⊕ (AV×List AV))):Option AV→af→Option (Option AV×af):=
 List.rec (fun p I=>some (p,I)) (fun d _ aA p I=>
  match d with
  | .inl b=>if Nat.blt b floor then none else match I.get b with
   |some .g2=>aA p (I.set b .dead)
   |_=>none
  | .inr (b_,args)=>match call b_ args (p.getD .fz) I with
   |some (r,I)=>aA (cond r none p) I
   |none=>none) ds
def vq(env:Env)(floor:Nat)(rc:AV)(c:bB):Fr→af→Option (hQ×Fr×af):=
 bB.rec (motive:=fun _=>Fr→af→Option (hQ×Fr×af))
  (fun ai I=>some (.normal,ai,I))
  (fun ops ai I=>q_ env floor (fun _ _ _=>none) (some rc) false ops ai I)
  (fun _ _ _=>none)
  (fun _ _ Kb Kc ai I=>match Kb ai I with
   |some (.normal,ai,I)=>Kc ai I
   |r=>r)
  (fun c _ _ Kb Kc ai I=>match evalA env ai.bk c with
   |some (.b t)=>cond t (Kb ai I) (Kc ai I)
   |_=>none)
  (fun _ _ _ _ _=>none) (fun _ _ _ _=>none) (fun _ _ _ _=>none) (fun _ _ _ _ _ _ _ _=>none) (fun _ _ _=>none)
  (fun ai I=>some (.ret,ai,I)) (fun _ _=>none) c
def callD(env:Env)(floor:Nat)(b_:AV)(args:List AV)(p:AV)(I:af):Option (Bool×af):=
 match b_ with
 | .f (.func g) first cap=>match env.funcs g with
  |some fn=>match fn.body with
   |some body=>cond (Nat.beq (first++args++cap).length fn.lP&&Nat.ble (first++args++cap).length fn.ntmps)
    (match vq env floor p body (tU fn (first++args++cap)) I with
     |some (.normal,ai,I)=>(match ai.defers,resultsOf I ai.bk fn.results with|[],some _=>some (ai.fA,I)|_,_=>none)
     |some (.ret,ai,I)=>(match ai.defers,resultsOf I ai.bk fn.results with|[],some _=>some (ai.fA,I)|_,_=>none)
     |_=>none) none
   |none=>none
  |none=>none
 |_=>none
def Ft(e:hQ):Option AV:=match e with| .panic v=>some v|_=>none
def endF(env:Env)(floor:Nat)(fn:ch)(r:hQ×Fr×af):Option (List (dM×af)):=
 match r with
 |(.exit _,_,_)=>none
 |(e,ai,I)=>
  match leave floor (callD env floor) ai.defers (Ft e) I with
  |none=>none
  |some (some v,I)=>some [(.err v,I)]
  |some (none,I)=>match resultsOf I ai.bk fn.results with
   |some v=>some [(.ok v,I)]
   |none=>none
def runF(env:Env)(aA:jv)(floor g:Nat)(args:List AV)(I:af):Option (List (dM×af)):=
 match env.funcs g with
 |none=>none
 |some fn=>match fn.body with
  |none=>none
  |some body=>
   cond (Nat.beq args.length fn.lP&&Nat.ble args.length fn.ntmps)
    (kl (aA floor none body (tU fn args) I) (endF env floor fn))
    none
def zf(c:Nat)(l:List Nat):Nat→Int:=List.rec (motive:=fun _=>Nat→Int) (fun _=>-1) (fun x _ aA k=>cond (Nat.beq x c) (Int.ofNat k) (aA (k+1))) l
def a1x(c:Nat)(l:List Nat):Nat:=List.rec 0 (fun x _ aA=>cond (Nat.beq x c) (Nat.succ aA) aA) l
def extRow(n:Nat)(args:List AV):Option AV:=
 match n,args with
 |1,[.s l,.i .u8 (.ofNat c)]=>cond (Nat.blt c 256) (some (.i .i64 (zf c l 0))) none
 |2,[.s a,.s b]=>some (.i .i64 (cond (iy a b) (-1) (cond (eqL a b) 0 1)))
 |3,[.s l,.i .u8 (.ofNat c)]=>cond (Nat.blt c 256) (some (.i .i64 (Int.ofNat (a1x c l)))) none
 |_,_=>none
def w8(n base:Nat)(v1:AV)(y:dM×af):Bool:=
 match y with
 |(.ok w,I)=>(match freeze I base n w with|some aW=>AV.eqb n aW v1|none=>false)
 |(.err _,_)=>false
def joinF(n base:Nat)(l:List (dM×af)):Option AV:=
 match l with
 |[]=>none
 |x::t=>match x with
  |(.err _,_)=>none
  |(.ok v,I)=>match freeze I base n v with
   |none=>none
   |some v1=>cond (dw (w8 n base v1) t) (some v1) none
def w9(N:Nat)(v:AV):AV:=
 match v with
 | .ak id off len ad cap=>.ak (id+N) off len ad cap
 |v=>v
def w_:AV→Bool
 | .s _| .i _ _| .b _| .aB| .ak _ _ _ _ _=>true
 |_=>false
def BG(N:Nat)(v:AV):AV:=
 match v with
 | .ag l=>.ag (l.map (w9 N))
 |v=>w9 N v
def BH(N:Nat)(v:AV):AV:=
 match v with
 | .bJ l=>.bJ (l.map (BG N))
 |v=>BG N v
def BI:AV→Bool
 | .ag l=>dw w_ l
 |v=>w_ v
def Fu:AV→Bool
 | .bJ l=>dw BI l
 |v=>BI v
def BJ(N:Nat)(J:AO):AO:=
 match J with
 | .cells c=>.cells (c.map (w9 N))
 |_=>.dead
def sv(N:Nat)(os:List AO):af→af:=List.rec (fun I=>I) (fun J _ aA I=>aA (I.push (BJ N J))) os
def mclE(k:Nat)(args:List AV)(I:af):Option (List (dM×af)):=
 match k,args with
 |8,[.it t (.m (some r))]=>match I.get r with
  |some (.map es clock)=>some [(.ok (.it t (.m (some I.next))),I.push (.map es clock))]
  |_=>none
 |_,_=>none
def callF(env:Env)(aA:jv)(floor g:Nat)(args:List AV)(I:af):Option (List (dM×af)):=
 match env.ext g with
 |0=>
  cond (env.pure g)
   (match(match mapO (bh I env.aV) args with|some aR=>env.spec g aR|none=>none) with
    |some r=>some [(.ok r,I)]
    |none=>match runF env aA I.next g args I with
     |some l=>match joinF env.aV I.next l with
      |some v=>some [(.ok v,I)]
      |none=>none
     |none=>none)
   (runF env aA floor g args I)
 |k=>match extRow k args with
  |some v=>some [(.ok v,I)]
  |none=>match(match mapO (bh I env.aV) args with|some aR=>env.vo g aR|none=>none) with
   |some (v,os)=>some [(.ok (BH I.next v),sv I.next os I)]
   |none=>mclE k args I
def layAll(ps:List Nat):List AV→aT AV→aT AV:=
 List.rec (fun _ ak=>ak) (fun p _ aA args ak=>match args with|[]=>ak|a::args=>aA args (ak.set p a)) ps
def endRound(I:af)(l:Nat)(a1y:Option bB):Option (dM×af):=
 match I.get l with
 |some (.loop _ _ ak ps as b d)=>match a1y with
  |none=>some (.ok (.b true),I.set l (.loop .ready none ak ps as b d))
  |some c=>some (.ok (.b false),I.set l (.loop .done (some c) ak ps as b d))
 |_=>none
def roundEnd(l:Nat)(r:hQ×Fr×af):Option (List (dM×af)):=
 match r with
 |(.normal,_,I)=>(endRound I l none).map fun x=>[x]
 |(.ret,_,I)=>(endRound I l (some .ret)).map fun x=>[x]
 |(.exit id,_,I)=>(endRound I l (some (.exit id))).map fun x=>[x]
 |_=>none
def roundMid(aA:jv)(floor l:Nat)(b:bB)(r:hQ×Fr×af):Option (List (dM×af)):=
 match r with
 |(.normal,ai,I)=>match I.get l with
  |some (.loop .ready kE qj lQ hz gL dT)=>kl (aA floor (some l) b ai (I.set l (.loop .busy kE qj lQ hz gL dT))) (roundEnd l)
  |_=>none
 |_=>none
def Kd(aA:jv)(floor l:Nat)(args:List AV)(I:af):Option (List (dM×af)):=
 if Nat.blt l floor then none else
 match I.get l with
 |some (.loop .ready _ ak ps as b _)=>
  cond (Nat.beq ps.length args.length)
   (kl (aA floor (some l) as ⟨layAll ps args ak,[],false⟩ I) (roundMid aA floor l b)) none
 |_=>none
def callV(env:Env)(aA:jv)(floor:Nat)(b_:AV)(args:List AV)(I:af):Option (List (dM×af)):=
 match b_ with
 | .f (.func g) first cap=>callF env aA floor g (first++args++cap) I
 | .f (.yield l) _ _=>Kd aA floor l args I
 |_=>none
def BK(aI:Option Nat)(ai:Fr)(I:af):Option (Nat×af×List (Nat ⊕ (AV×List AV))):=
 match aI with
 |some l=>match I.get l with
  |some (.loop _ _ _ _ _ _ d)=>some (d,I,ai.defers)
  |_=>none
 |none=>some (I.next,I.push .g2,.inl I.next::ai.defers)
def zg(aA:jv)(floor:Nat)(aI:Option Nat)(b:bB)(r:hQ×Fr×af):Option oF:=
 match r with
 |(.normal,ai,I)=>aA floor aI b ai I
 |r=>some [r]
def Ke(id:Nat)(r:hQ×Fr×af):Option oF:=
 match r with
 |(.exit j,ai,I)=>cond (Nat.beq j id) (some [(.normal,ai,I)]) (some [(.exit j,ai,I)])
 |r=>some [r]
def rangeK(aA:jv)(floor:Nat)(aI:Option Nat)(ai:Fr)(ds:List (Nat ⊕ (AV×List AV)))(l:Nat)(r:dM×af):Option oF:=
 match r with
 |(.ok _,je)=>match je.get l with
  |some (.loop st kE qj lQ hz gL dT)=>
   match st with
   | .busy=>none
   |_=>match kE with
    |none=>some [(.normal,⟨ai.bk,ds,ai.fA⟩,je.set l (.loop .exhausted kE qj lQ hz gL dT))]
    |some c=>aA floor aI c ⟨ai.bk,ds,ai.fA⟩ (je.set l (.loop .exhausted kE qj lQ hz gL dT))
  |_=>none
 |_=>none
def drawn(env:Env)(floor:Nat)(ops:List a1)(x:j2):Option (hQ×Fr×af):=
 cond (x.2.2.1.all (steady env floor (x.2.2.2::x.2.1).reverse)&&swapOk env x.1.bk ops) (some (.normal,x.1,x.2.2.2)) none
def step(env:Env)(aA:jv):jv:=fun floor aI c ai I=>
 match c with
 | .skip=>some [(.normal,ai,I)]
 | .region ops=>runOps env floor (callV env aA floor) aI.isNone ops ai I
 | .draw ops=>match runDraws env floor (callV env aA floor) ops ai [] [] I with
  |some l=>mapO (drawn env floor ops) l
  |none=>none
 | .seq a b=>kl (aA floor aI a ai I) (zg aA floor aI b)
 | .cond c a b=>match evalA env ai.bk c with
  |some (.b t)=>aA floor aI (cond t a b) ai I
  |_=>none
 | .block id a=>kl (aA floor aI a ai I) (Ke id)
 | .scope a=>aA floor aI a ai I
 | .loop a=>kl (aA floor aI a ai I) (zg aA floor aI (.loop a))
 | .exit id=>some [(.exit id,ai,I)]
 | .ret=>some [(.ret,ai,I)]
 | .rangeFunc f ps as b=>
  if Nat.blt I.next floor then none else
  match evalA env ai.bk f with
  |some (.f (.func g) first cap)=>
   match BK aI ai I with
   |none=>none
   |some (d,b3,ds)=>
    match env.ext g with
    |0=>kl (callF env aA floor g (first++AV.f (.yield b3.next) [] []::cap) (b3.push (.loop .ready none ai.bk ps as b d))) (rangeK aA floor aI ai ds b3.next)
    |_=>none
  |_=>none
 | .bad=>none
abbrev oH:=Env→jv→Nat→Option Nat→Fr→af→Option (List (hQ×Fr×af))
def a1z:oH:=fun _ _ _ _ ai I=>some [(.normal,ai,I)]
def a1A(ops:List a1):oH:=fun env aA floor aI ai I=>runOps env floor (callV env aA floor) aI.isNone ops ai I
def a1B(ops:List a1):oH:=fun env aA floor _ ai I=>match runDraws env floor (callV env aA floor) ops ai [] [] I with
  |some l=>mapO (drawn env floor ops) l
  |none=>none
def a1C(a b:bB):oH:=fun _ aA floor aI ai I=>kl (aA floor aI a ai I) (zg aA floor aI b)
def a1D(c:aC)(a b:bB):oH:=fun env aA floor aI ai I=>match ze env ai.bk c with
  |some (.b t)=>aA floor aI (cond t a b) ai I
  |_=>none
def a1E(id:Nat)(a:bB):oH:=fun _ aA floor aI ai I=>kl (aA floor aI a ai I) (Ke id)
def a1F(a:bB):oH:=fun _ aA floor aI ai I=>kl (aA floor aI a ai I) (zg aA floor aI (.loop a))
def a1G(a:bB):oH:=fun _ aA floor aI ai I=>aA floor aI a ai I
def a1H(id:Nat):oH:=fun _ _ _ _ ai I=>some [(.exit id,ai,I)]
def a1I:oH:=fun _ _ _ _ ai I=>some [(.ret,ai,I)]
def a1J(f:aC)(ps:List Nat)(as b:bB):oH:=fun env aA floor aI ai I=>step env aA floor aI (.rangeFunc f ps as b) ai I
def a1K:oH:=fun _ _ _ _ _ _=>none
def a1L(c:bB):oH:=
 bB.rec (motive:=fun _=>oH) a1z a1A a1B (fun a b _ _=>a1C a b) (fun c a b _ _=>a1D c a b) (fun id a _=>a1E id a) (fun a _=>a1F a) (fun a _=>a1G a) (fun f ps a b _ _=>a1J f ps a b) a1H a1I a1K c
def Qy(env:Env)(aA:jv):jv:=fun floor aI c ai I=>a1L c env aA floor aI ai I
def exec(env:Env)(n:Nat):jv:=Nat.rec (motive:=fun _=>jv) (fun _ _ _ _ _=>none) (fun _ aA=>Qy env aA) n
def Qz(env:Env)(n g:Nat)(args:List AV):Option AV:=
 match runF env (exec env n) 0 g args ⟨.nil,0⟩ with
 |some l=>joinF env.aV 0 l
 |none=>none
def lj(s:ByteArray):List Nat:=s.data.toList.map (·.toNat)
def ofLeaf:Value→Option AV
 | .bool b=>some (.b b)
 | .int k n=>some (.i k n)
 | .string s=>some (.s (lj s))
 | .pointer none=>some (.p none)
 | .slice none 0 0=>some .aB
 | .map none=>some (.m none)
 | .nilFunc=>some .iP
 | .nilIface=>some .fz
 |_=>none
def mapOL{α β:Type}(f:α→Option β):List α→Option (List β)
 |[]=>some []
 |x::xs=>match f x,mapOL f xs with
  |some y,some aO=>some (y::aO)
  |_,_=>none
def ofValue:Value→Option AV
 | .agg l=>match mapOL ofLeaf l.toList with|some l=>some (.ag l)|none=>none
 | .iface t v=>match ofLeaf v with|some v=>some (.it t v)|none=>none
 |v=>ofLeaf v
section
variable (P:Program)
def shapeOf(t:TypeId):Option (Option Nat):=
 match P.underlying t,P.info? t with
 |some (.struct _),some i=>some (some i.size)
 |some (.array _ _),some i=>some (some i.size)
 |some (.struct _),none=>none
 |some (.array _ _),none=>none
 |some _,some i=>if i.size=1 then some none else none
 |_,_=>none
def zeroOf(t:TypeId):Option AV:=
 match P.info? t with
 |some i=>match i.zero with
  |some v=>ofValue v
  |none=>none
 |none=>none
def opdOf:Operand→Option aC
 | .tmp t=>some (.t t)
 | .const v=>match ofValue v with|some v=>some (.c v)|none=>none
 | .global g=>some (.g g)
 | .func f=>some (.c (.f (.func f) [] []))
def xa(l:List Operand):Option (List aC):=mapOL opdOf l
def opdO:Option Operand→Option (Option aC)
 |none=>some none
 |some x=>match opdOf x with|some x=>some (some x)|none=>none
def fieldOf(t:TypeId)(i:Nat):Option (Nat×Option Nat):=
 match P.underlying t with
 |some (.struct fs)=>match fs[i]? with
  |some f=>match shapeOf P f.type with
   |some ad=>if shN ad=0 then none else some (f.offset,ad)
   |none=>none
  |none=>none
 |_=>none
def elemOf'(t:TypeId):Option (TypeId×Option Nat):=
 match P.underlying t with
 |some (.slice e)=>match shapeOf P e with|some ad=>some (e,ad)|none=>none
 |_=>none
def calleeOf:Callee→Option sr
 | .value (.func f)=>some (.fn f)
 | .value x=>match opdOf x with|some x=>some (.val x)|none=>none
 |_=>none
def isU8(t:TypeId):Bool:=match P.underlying t with|some (.int .u8)=>true|_=>false
def leafKind(t:TypeId):Option Nat:=
 match P.underlying t with
 |some (.int _)=>some 0
 |some .string=>some 1
 |some .bool=>some 2
 |_=>none
def keyOk(t:TypeId):Option (Nat ⊕ List Nat):=
 match leafKind P t with
 |some k=>some (.inl k)
 |none=>
  match P.underlying t with
  |some (.struct fs)=>if !P.stoodInHeld t&&fs.toList.zipIdx.all (fun(f,i)=>decide (f.name≠ "_")&&decide (f.offset=i)&&decide (shapeOf P f.type=some none)) then
    (mapOL (fun f=>leafKind P f.type) fs.toList).map .inr else none
  |_=>none
def isInt(t:TypeId):Bool:=match P.underlying t with|some (.int _)=>true|_=>false
def isText(t:TypeId):Bool:=match P.underlying t with|some (.slice _)=>true|some .string=>true|_=>false
def flatS:Nat→List Field→Option (List Nat)
 |_,[]=>some []
 |i,f::fs=>
  if f.name≠ "_" ∧f.offset=i then
   match leafKind P f.type with
   |some k=>if shapeOf P f.type=some none then(flatS (i+1) fs).map fun l=>k::l else none
   |none=>match keyOk P f.type with
    |some (.inr bc)=>if shapeOf P f.type=some (some bc.length) then(flatS (i+bc.length) fs).map fun l=>bc++l else none
    |_=>none
  else none
def stK(t:TypeId):Option Nat:=
 match P.underlying t with
 |some (.struct fs)=>if P.stoodInHeld t=true then none else match flatS P 0 fs.toList with
  |some bc=>if Qw 40 (Fq bc)=bc∧P.eqGuardType P.depth t=false then some (10+Fq bc) else none
  |none=>none
 |_=>none
def cop(J:Oper):Option AOp:=
 match J.op with
 | .move x=>(opdOf x).map .b6
 | .assign x=>(opdOf x).map .b6
 | .pick c a b=>do return .pick (←opdOf c) (←opdOf a) (←opdOf b)
 | .alloc e=>(zeroOf P e).map .alloc
 | .box _ x=>(opdOf x).map .box
 | .build t ps=>do
  let .ag z ←zeroOf P t|none
  match P.underlying t with
  |some (.struct fs)=>
   if fs.any (fun f=>(P.info? f.type).isNone) then none else
   let l ←mapOL (fun(p:Nat×Operand)=>match fieldOf P t p.1,opdOf p.2 with|some (off,ad),some x=>some (off,shN ad,x)|_,_=>none) ps.toList
   return .build z l
  |some (.array _ e)=>do
   let ad ←shapeOf P e
   let l ←mapOL (fun(p:Nat×Operand)=>match opdOf p.2 with|some x=>some (p.1*shN ad,shN ad,x)|none=>none) ps.toList
   return .build z l
  |_=>none
 | .buildSlice t n ps=>do
  let(e,ad) ←elemOf' P t
  let z ←zeroOf P e
  let l ←mapOL (fun(p:Nat×Operand)=>match opdOf p.2 with|some x=>some (p.1,x)|none=>none) ps.toList
  if n*shN ad≤16777216∧z.cells.length=shN ad then return .buildSlice ad n z.cells l else none
 | .insert t m k v| .mapUpdate t m k v=>
  match P.underlying t with
  |some (.map lk _)=>do return .pc (←keyOk P lk) (←opdOf m) (←opdOf k) (←opdOf v)
  |_=>none
 | .load t a=>do return .load (←shapeOf P t) (←opdOf a)
 | .store t a v=>do return .store (←shapeOf P t) (←opdOf a) (←opdOf v)
 | .nilCheck x=>(opdOf x).map .nilCheck
 | .binOp op t x y _=>do
  let x ←opdOf x;let y ←opdOf y
  match P.underlying t,op with
  |some (.int _),_=>return .bin op x y
  |some .string,_=>return .bin op x y
  |some .bool,.eql=>return .w5 false x y
  |some .bool,.neq=>return .w5 true x y
  |some (.interface _),.eql=>return .lN 0 false x y
  |some (.interface _),.neq=>return .lN 0 true x y
  |some (.pointer _),.eql=>return .lN 1 false x y
  |some (.pointer _),.neq=>return .lN 1 true x y
  |some (.func _ _ _),.eql=>return .lN 2 false x y
  |some (.func _ _ _),.neq=>return .lN 2 true x y
  |some (.slice _),.eql=>return .lN 3 false x y
  |some (.slice _),.neq=>return .lN 3 true x y
  |some (.map _ _),.eql=>return .lN 4 false x y
  |some (.map _ _),.neq=>return .lN 4 true x y
  |some (.struct _),.eql=>(stK P t).map fun k=>.lN k false x y
  |some (.struct _),.neq=>(stK P t).map fun k=>.lN k true x y
  |_,_=>none
 | .unOp .not _ x=>(opdOf x).map .not
 | .unOp .neg _ x=>(opdOf x).map .neg
 | .unOp _ _ _=>none
 | .convert s d x=>
  match P.underlying s,P.underlying d with
  |some (.int _),some (.int k)=>(opdOf x).map (.conv k)
  |some .string,some (.slice e)=>if isU8 P e then(opdOf x).map .Fj else none
  |some (.slice e),some .string=>if isU8 P e then(opdOf x).map .BC else none
  |_,_=>none
 | .makeInterface t x=>match P.underlying t with
  |some (.interface _)=>none
  |some _=>(opdOf x).map (.BD t)
  |none=>none
 | .makeFunc fn a c=>match fn with
  | .func f=>do return .vn (.func f) (←xa a.toList) (←xa c.toList)
  |_=>none
 | .makeMap t r=>match P.underlying t,r with
  |some (.map _ _),none=>some .mkMap
  |some (.map _ _),some (.const (.int _ _))=>some .mkMap
  |_,_=>none
 | .makeSlice t l c=>do
  let(e,ad) ←elemOf' P t
  let z ←zeroOf P e
  let i ←P.info? e
  if z.cells.length=shN ad then return .mkSlice ad i.bytes z.cells (←opdOf l) (←opdOf c) else none
 | .slice t x l h m=>do
  let l ←opdO l;let h ←opdO h;let m ←opdO m
  match P.underlying t with
  |some (.array n e)=>match m with
   |none=>return .zc n (←shapeOf P e) (←opdOf x) l h
   |some _=>none
  |some (.slice e)=>match shapeOf P e with
   |some ad=>if m.isSome∧h.isNone then none else return .kX ad (←opdOf x) l h m
   |none=>none
  |some .string=>match m with
   |none=>return .BE (←opdOf x) l h
   |some _=>none
  |_=>none
 | .fieldAddr t x i=>do
  let(off,ad) ←fieldOf P t i
  return .fieldAddr off ad (←opdOf x)
 | .field t x i=>do
  let(off,ad) ←fieldOf P t i
  return .field off ad (←opdOf x)
 | .indexAddr t x i=>
  match P.underlying t with
  |some (.array n e)=>do return .Fk n (←shapeOf P e) (←opdOf x) (←opdOf i)
  |some (.slice e)=>do return .cK (←shapeOf P e) (←opdOf x) (←opdOf i)
  |_=>none
 | .index t x i=>
  match P.underlying t with
  |some (.array n e)=>do return .J9 n (←shapeOf P e) (←opdOf x) (←opdOf i)
  |some .string=>do return .J8 (←opdOf x) (←opdOf i)
  |_=>none
 | .lookup t x k ok=>
  match P.underlying t with
  |some (.map lk e)=>do return .lookup (←keyOk P lk) (←opdOf x) (←opdOf k) (←zeroOf P e) ok
  |_=>none
 | .range t x=>match P.underlying t with
  |some (.map _ _)=>(opdOf x).map .rangeMap
  |_=>none
 | .next x false=>(opdOf x).map .ss
 | .entry x=>(opdOf x).map .entry
 | .typeAssert x _ t ok=>
  match P.underlying t with
  |some (.interface _)=>none
  |some _=>do return .Fl (←opdOf x) t (←zeroOf P t) ok
  |none=>none
 | .extract x i=>do return .extract (←opdOf x) i
 | .call {callee:=.builtin b,args,argTypes}=>
  match b,args.toList,argTypes.toList with
  | .append,[s,x],[t,u]=>do
   let(e,ad) ←elemOf' P t
   let i ←P.info? e
   let z ←zeroOf P e
   if isText P u∧i.bytes≠0∧z.cells.length=shN ad then return .append ad i.bytes (←opdOf s) (←opdOf x)
   else if isInt P u∧i.bytes≠0∧z.cells.length=shN ad∧0<shN ad then return .mkSlice ad i.bytes (.fz::z.cells) (←opdOf s) (←opdOf x) else none
  | .len,[x],[t]=>match P.underlying t with
   |some (.array n _)=>some (.Fo n)
   |some .string=>(opdOf x).map (.len 0)
   |some (.slice _)=>(opdOf x).map (.len 1)
   |some (.map _ _)=>(opdOf x).map (.len 2)
   |_=>none
  | .cap,[x],[t]=>match P.underlying t with
   |some (.slice _)=>(opdOf x).map .cap
   |_=>none
  | .clear,[x],[t]=>match elemOf' P t with
   |some (e,ad)=>do
    let z ←zeroOf P e
    if z.cells.length=shN ad then return .copy ad (←opdOf x) (.c (.ag z.cells)) else none
   |none=>none
  | .min,[x,y],_=>do return .lO false (←opdOf x) (←opdOf y)
  | .max,[x,y],_=>do return .lO true (←opdOf x) (←opdOf y)
  | .recover,[],_=>some .recover
  | .panic,[x],_=>(opdOf x).map .panic
  |_,_,_=>none
 | .call c=>do return .call (←calleeOf c.callee) (←xa c.args.toList)
 | .defer {callee:=.builtin _,..}=>none
 | .defer c=>do return .nj (←calleeOf c.callee) (←xa c.args.toList)
 | .panic x=>(opdOf x).map .panic
 |_=>none
def copB(J:Oper):AOp:=match cop P J with|some x=>x|none=>.bad
def guardOf(ops:Array Oper)(J:Oper):Option (Option (Nat×Bool)):=
 match J.guard with
 |none=>some none
 |some (j,w)=>match(ops[j]?).bind (·.dst) with
  |some d=>some (some (d,w))
  |none=>none
def coper(ops:Array Oper)(J:Oper):Option a1:=
 match guardOf ops J with
 |some g=>some {dst:=J.dst,op:=copB P J,guard:=g,lg:=[]}
 |none=>none
def ra(J:Oper):List Nat:=(J.after.toList.filter (Region.binds .any)).map (·.on)
def BL:Nat→List (Nat×Bool×List Nat)→Nat→List Nat
 |0,_,_=>[]
 |fuel+1,rem,mask=>
  match(match rem.find? (fun x=>!x.2.1&&x.2.2.all (fun d=>mask.testBit d)) with|some x=>some x|none=>rem.find? (fun x=>x.2.2.all (fun d=>mask.testBit d))) with
  |some x=>x.1::BL fuel (rem.filter fun y=>!Nat.beq y.1 x.1) (mask ||| 1 <<< x.1)
  |none=>[]
def zh(A:List Nat)(es:List Nat):Nat:=es.foldr (fun d acc=>(1 <<< d ||| A.getD d 0) ||| acc) 0
def Fv{α:Type}(f:α→α→Bool):List α→Bool
 |[]=>true
 |x::xs=>xs.all (f x)&&Fv f xs
def indep(x y:a1):Bool:=(match x.dst with|some d=>!y.reads.contains d|none=>true)&&(match y.dst with|some d=>!x.reads.contains d|none=>true)
def Kf:AOp→Bool
 | .store _ _ _=>true
 |_=>false
def QA(x:a1):Bool:=!x.op.fW&&(!x.op.lh&& !x.op.looks)
def QB(A:List Nat)(pl:List a1)(x y:a1×Nat):Bool:=
 Nat.beq (x.2+1) y.2&&(Nat.beq (y.2+1) pl.length&&(Kf x.1.op&&(Kf y.1.op&&(x.1.dst.isNone&&(y.1.dst.isNone&&(x.1.guard.isNone&&(y.1.guard.isNone&&(!y.1.lg.isEmpty&&
  pl.zipIdx.all fun r=>!Nat.blt r.2 x.2||((A.getD y.2 0).testBit r.2||QA r.1)))))))))
def pairOk(A:List Nat)(pl:List a1)(x y:a1×Nat):Bool:=
 let w4:=(A.getD y.2 0).testBit x.2
 (match x.1.dst,y.1.dst with|some d,some e=>!Nat.beq d e|_,_=>true)&&(w4||(indep x.1 y.1&&(!x.1.op.fW||QB A pl x y)))
def Fw(x:a1):Bool:=x.op.fW||x.op.lh
def QC(A:List Nat)(es:List Nat)(cs:List Nat)(n:Nat)(x:a1×Nat):Bool:=
 !x.1.op.looks||(n::es).all fun q=>!Nat.blt x.2 q||(x.1.lg.contains q||(es.any (fun e=>Nat.blt x.2 e&&(Nat.blt e q&&(A.getD e 0).testBit x.2))||cs.all fun c=>!(Nat.blt x.2 c&&Nat.blt c q)))
def a1M(A:List Nat)(es:List Nat)(cs:List Nat)(n:Nat)(x:a1×Nat):List Nat:=
 if Kf x.1.op&&(Nat.beq (x.2+1) n&&(Nat.blt 0 x.2&&(es.contains (x.2-1)&& !(A.getD x.2 0).testBit (x.2-1)))) then[x.2-1]
 else if x.1.op.looks then(es++[n]).filter fun q=>Nat.blt x.2 q&&(!es.any (fun e=>Nat.blt x.2 e&&(Nat.blt e q&&(A.getD e 0).testBit x.2))&& !cs.all fun c=>!(Nat.blt x.2 c&&Nat.blt c q)) else[]
def posOf(p:a1→Bool)(pl:List a1):List Nat:=(pl.zipIdx.filter fun x=>p x.1).map (·.2)
def QD(n:Nat)(a8 c1:List Nat):Bool:=
 Nat.beq a8.length n&&(Nat.beq c1.length n&&(a8.zipIdx.all (fun x=>Nat.blt x.1 n&&Nat.beq (c1.getD x.1 0) x.2)&&c1.zipIdx.all (fun x=>Nat.blt x.1 n&&Nat.beq (a8.getD x.1 0) x.2)))
def zi(ds:List (List Nat))(c1:List Nat)(i:Nat):List Nat:=(ds.getD i []).map fun j=>c1.getD j 0
def QE(ds:List (List Nat))(a8 c1 A:List Nat):Bool:=
 a8.zipIdx.all fun x=>(zi ds c1 x.1).all (fun d=>Nat.blt d x.2)&&Nat.beq (A.getD x.2 0) (zh A (zi ds c1 x.1))
def QF(n:Nat)(ds:List (List Nat))(pl:List a1)(a8 c1 A:List Nat):Bool:=
 QD n a8 c1&&(ds.all (fun l=>l.all fun d=>Nat.blt d n)&&(QE ds a8 c1 A&&(Fv (pairOk A pl) pl.zipIdx&&pl.zipIdx.all (QC A (posOf (·.op.fW) pl) (posOf Fw pl) n))))
def QG(l:List a1)(a8:List Nat):Option (List a1):=mapOL (fun i=>l[i]?) a8
def BM(A:List Nat)(n:Nat)(pl:List a1):List a1:=
 let es:=posOf (·.op.fW) pl
 let cs:=posOf Fw pl
 pl.zipIdx.map fun x=>{x.1 with lg:=a1M A es cs n x}
def cdraw(ops:Array Oper):Option (List a1):=
 match mapOL (coper P ops) ops.toList with
 |none=>none
 |some l=>
  let n:=ops.size
  let ds:=ops.toList.map ra
  let a8:=BL n ((l.zip ds).zipIdx.map fun x=>(x.2,x.1.1.op.fW,x.1.2)) 0
  let c1:=(List.range n).map fun i=>a8.findIdx (Nat.beq i)
  let A:=a8.foldl (fun acc i=>acc++[zh acc (zi ds c1 i)]) []
  match QG l a8 with
  |none=>none
  |some pl=>if QF n ds (BM A n pl) a8 c1 A then some (BM A n pl) else none
def ccode:Code→Option bB
 | .skip=>some .skip
 | .region _ ops true=>match cdraw P ops with|some l=>some (.draw l)|none=>some .bad
 | .region _ ops false=>match mapOL (coper P ops) ops.toList with|some l=>some (.region l)|none=>some .bad
 | .seq a b=>match ccode a,ccode b with|some a,some b=>some (.seq a b)|_,_=>none
 | .cond c a b=>match opdOf c,ccode a,ccode b with|some c,some a,some b=>some (.cond c a b)|_,_,_=>none
 | .block id a=>match ccode a with|some a=>some (.block id a)|none=>none
 | .loop a=>match ccode a with|some a=>some (.loop a)|none=>none
 | .scope a=>match ccode a with|some a=>some (.scope a)|none=>none
 | .rangeFunc f ps a b=>match opdOf f,ccode a,ccode b with|some f,some a,some b=>some (.rangeFunc f ps.toList a b)|_,_,_=>none
 | .exit id=>some (.exit id)
 | .ret=>some .ret
 | .label _=>some .skip
 | .goto _=>some .bad
 | .refuse _=>some .bad
def resOf:ResultVar→Option (Nat×Option (Option Nat))
 | .tmp t=>some (t,none)
 | .cell a t=>match shapeOf P t with|some ad=>some (a,some ad)|none=>none
def cfunc(f:Func):Option ch:=
 match mapOL (resOf P) f.results.toList with
 |some rs=>match f.body with
  |none=>none
  |some c=>match ccode P c with
   |some c=>some {lP:=f.params.size+f.nfree,ntmps:=f.ntmps,results:=rs,body:=some c}
   |none=>none
 |none=>none
end
section
def strOf(l:List Nat):ByteArray:=⟨(l.map Nat.toUInt8).toArray⟩
def dU(w:World)(b:Nat):Option Nat:=
 match w.heap[b]? with
 |some (.cells c _ _)=>some c.size
 |_=>none
class Tok where
 a1N:Nat→AV
 zj:Bool→Nat→AV
variable [Tok]
inductive BN:AV→Value→Prop
 |i (k:IntKind) (n:Int):BN (.i k n) (.int k n)
 |s (l:List Nat) (h:∀c∈l,c<256):BN (.s l) (.string (strOf l))
theorem BN.alt{a:AV}{u:Value}(h:BN a u):(∃k n,u= .int k n)∨∃s,u= .string s:=by
 cases h with
 |i k n=>exact .inl ⟨_,_,rfl⟩
 |s l h=>exact .inr ⟨_,rfl⟩
inductive R(w:World):(Nat→Option Nat)→(Nat→Prop)→Nat→AV→Value→Prop
 |b {m:Nat→Option Nat} {O:Nat→Prop} {B:Nat} (x:Bool):R w m O B (.b x) (.bool x)
 |i {m:Nat→Option Nat} {O:Nat→Prop} {B:Nat} (k:IntKind) (n:Int):R w m O B (.i k n) (.int k n)
 |s {m:Nat→Option Nat} {O:Nat→Prop} {B:Nat} (l:List Nat) (h:∀c∈l,c<256):R w m O B (.s l) (.string (strOf l))
 |qk {m:Nat→Option Nat} {O:Nat→Prop} {B:Nat}:R w m O B (.p none) (.pointer none)
 |p {m:Nat→Option Nat} {O:Nat→Prop} {B:Nat} {id ax off:Nat} (h:m id=some ax):R w m O B (.p (some (id,off))) (.pointer (some ⟨ax,off,none⟩))
 |cZ {m:Nat→Option Nat} {O:Nat→Prop} {B:Nat} {old:Bool} {v:AV} {ax off:Nat} (aO:Nat→Value) (db:¬O ax) (hb:ax<w.heap.size) (c4:old=false→B≤ax)
   (ah:∀j,j<v.cells.length→w.cell? ⟨ax,off+j,none⟩=some (aO j)) (al:∀j (h:j<v.cells.length),R w (fun _=>none) O B (v.cells[j]) (aO j)) (hf:∀x∈v.cells,conf none x=true):
   R w m O B (.cZ old v) (.pointer (some ⟨ax,off,none⟩))
 |aB {m:Nat→Option Nat} {O:Nat→Prop} {B:Nat}:R w m O B .aB (.slice none 0 0)
 |ak {m:Nat→Option Nat} {O:Nat→Prop} {B:Nat} {id off len ax n ev:Nat} {ad cap:Option Nat} (h:m id=some ax) (ar:len≤ev) (ah:∀c,cap=some c→ev=c) (hn:dU w ax=some n) (g3:off+ev*shN ad≤n) (c7:cap=none→off+ev*shN ad=n):
   R w m O B (.ak id off len ad cap) (.slice (some ⟨ax,off,none⟩) len ev)
 |ma {m:Nat→Option Nat} {O:Nat→Prop} {B:Nat} {old:Bool} {ad:Option Nat}:R w m O B (.a7 old ad []) (.slice none 0 0)
 |a7 {m:Nat→Option Nat} {O:Nat→Prop} {B:Nat} {old:Bool} {ad:Option Nat} {xs:List AV} {ax off ev:Nat} {sp:Option Nat} (aO:Nat→Nat→Value) (db:xs≠[]→¬O ax∧ax<w.heap.size∧(old=false→B≤ax))
   (aj:∀i (h:i<xs.length),conf ad (xs[i])=true)
   (ah:∀i (h:i<xs.length),∀j,j<(xs[i]).cells.length→w.cell? ⟨ax,off+i*shN ad+j,none⟩=some (aO i j))
   (al:∀i (h:i<xs.length),∀j (az:j<(xs[i]).cells.length),R w (fun _=>none) O B ((xs[i]).cells[j]) (aO i j)) (ar:xs.length≤ev) (hf:∀v∈xs,∀x∈v.cells,conf none x=true) (eU:xs≠[]→sp=none):
   R w m O B (.a7 old ad xs) (.slice (some ⟨ax,off,sp⟩) xs.length ev)
 |rb {m:Nat→Option Nat} {O:Nat→Prop} {B:Nat}:R w m O B (.m none) (.map none)
 |mp {m:Nat→Option Nat} {O:Nat→Prop} {B:Nat} {id ax:Nat} (h:m id=some ax):R w m O B (.m (some id)) (.map (some ax))
 |oI {m:Nat→Option Nat} {O:Nat→Prop} {B:Nat} {g:Nat} {fs cs:List AV} {g4 ea:Array Value} (hf:g4.size=fs.length) (bY:∀i (h:i<fs.length) (h':i<g4.size),R w m O B (fs[i]) (g4[i]))
   (ah:ea.size=cs.length) (sw:∀i (h:i<cs.length) (h':i<ea.size),R w m O B (cs[i]) (ea[i])):R w m O B (.f (.func g) fs cs) (.func (.func g) g4 ea)
 |tV {m:Nat→Option Nat} {O:Nat→Prop} {B:Nat} {l ax:Nat} (h:m l=some ax):R w m O B (.f (.yield l) [] []) (.func (.yield ax) #[] #[])
 |iP {m:Nat→Option Nat} {O:Nat→Prop} {B:Nat}:R w m O B .iP .nilFunc
 |it {m:Nat→Option Nat} {O:Nat→Prop} {B:Nat} {t:TypeId} {v:AV} {u:Value} (h:R w m O B v u):R w m O B (.it t v) (.iface t u)
 |fz {m:Nat→Option Nat} {O:Nat→Prop} {B:Nat}:R w m O B .fz .nilIface
 |ag {m:Nat→Option Nat} {O:Nat→Prop} {B:Nat} {l:List AV} {a3:Array Value} (aj:a3.size=l.length) (al:∀i (h:i<l.length) (h':i<a3.size),R w m O B (l[i]) (a3[i])) (hf:∀x∈l,conf none x=true):R w m O B (.ag l) (.agg a3)
 |bJ {m:Nat→Option Nat} {O:Nat→Prop} {B:Nat} {l:List AV} {a3:Array Value} (aj:a3.size=l.length) (al:∀i (h:i<l.length) (h':i<a3.size),R w m O B (l[i]) (a3[i])):R w m O B (.bJ l) (.tuple a3)
 |h4 {m:Nat→Option Nat} {O:Nat→Prop} {B:Nat} {k:IntKind} {d j n:Nat} (h:n%d=j) (hn:n<256):R w m O B (.h4 k d j) (.int k (Int.ofNat n))
 |gD {m:Nat→Option Nat} {O:Nat→Prop} {B:Nat} {ex:List (List Nat)} {s:ByteArray} (h:∀e∈ex,s≠strOf e):R w m O B (.gD ex) (.string s)
 |iQ {m:Nat→Option Nat} {O:Nat→Prop} {B:Nat} {hi:Bool} (n:Int) (h:hi=decide (40<n)):R w m O B (.iQ hi) (.int .i64 n)
 |y {m:Nat→Option Nat} {O:Nat→Prop} {B i:Nat} {u:Value} (h:BN (Tok.a1N i) u):R w m O B (.y i) u
 |g1 {m:Nat→Option Nat} {O:Nat→Prop} {B i:Nat} {old:Bool} {u:Value} {a:Option Addr} {l c:Nat} (hu:u= .slice a l c) (h:R w (fun _=>none) O B (Tok.zj old i) u):R w m O B (.g1 old i) u
 |fo {m:Nat→Option Nat} {O:Nat→Prop} {B n:Nat} (k:Nat) (h:n≤k):R w m O B (.fo n) (.int .i64 (Int.ofNat k))
 |gv {m:Nat→Option Nat} {O:Nat→Prop} {B aK hi:Nat} (k:Nat) (h:aK≤k) (h':k≤hi):R w m O B (.gv aK hi) (.int .i64 (Int.ofNat k))
 |ix {m:Nat→Option Nat} {O:Nat→Prop} {B:Nat} {old:Bool} {ad:Option Nat} {xs:List AV} {a:Addr} {n:Nat} (hn:n=xs.length) (bx:xs≠[]) (h:R w m O B (.a7 old ad xs) (.slice (some a) n n)):R w m O B (.ix old ad xs) (.slice (some a) n n)
class TokOk:Prop where
 snap:∀ {w:World} {O:Nat→Prop} {B gn i:Nat} {old:Bool} {u:Value},R w (fun _=>none) O B (Tok.zj old i) u→R w (fun _=>none) (fun _=>False) gn (Tok.zj true i) u
 fresh:∀ {w:World} {O:Nat→Prop} {B i:Nat} {u:Value},R w (fun _=>none) O B (Tok.zj false i) u→R w (fun _=>none) (fun b=>b<B) B (Tok.zj false i) u
def bz(w:World)(m:Nat→Option Nat)(O:Nat→Prop)(B:Nat)(l:List AV)(a3:List Value):Prop:=
 a3.length=l.length∧∀i (h:i<l.length) (h':i<a3.length),R w m O B (l[i]) (a3[i])
def jf(w:World)(m:Nat→Option Nat)(O:Nat→Prop)(B:Nat)(ak:aT AV)(a3:List Value):Prop:=
 (∀i v,ak.get i=some v→∃u,a3[i]? =some u∧R w m O B v u)∧∀i,ak.get i=none→a3[i]? =none
theorem QH{w an:World}{a:Addr}(h:an.heap[a.block]? =w.heap[a.block]?):an.cell? a=w.cell? a:=by
 unfold World.cell?;rw[h]
theorem R.mono{w an:World}{m aH:Nat→Option Nat}{O re:Nat→Prop}{B:Nat}(hm:∀id ax,m id=some ax→aH id=some ax)(bV:w.heap.size≤an.heap.size)
  (gT:∀b n,dU w b=some n→dU an b=some n) (aD:∀ax,ax<w.heap.size→¬O ax→an.heap[ax]? =w.heap[ax]? ∧¬re ax) {v:AV} {u:Value} (h:R w m O B v u):R an aH re B v u:=by
 induction h generalizing aH with
 |b x=>exact .b x
 |i k n=>exact .i k n
 |s l h=>exact .s l h
 |qk=>exact .qk
 |p h=>exact .p (hm _ _ h)
 |cZ aO db hb c4 ah al hf aA=>exact .cZ aO (aD _ hb db).2 (by omega) c4 (fun j az=>by rw[QH (w:=w) (aD _ hb db).1];exact ah j az) (fun j az=>aA j az (aH:=fun _=>none) (fun _ _ h=>by cases h) aD) hf
 |aB=>exact .aB
 |ak h ar ah hn g3 c7=>exact .ak (hm _ _ h) ar ah (gT _ _ hn) g3 c7
 |ma=>exact .ma
 | @a7 _ _ _ old ad xs ax off ev sp aO db aj ah al ar hf eU aA=>
  by_cases hx:xs=[]
  ·subst hx;exact .a7 aO (fun h=>absurd rfl h) aj (fun i h=>by simp at h) (fun i h=>by simp at h) ar hf eU
  ·obtain⟨h1,h2,h3⟩:=db hx;exact .a7 aO (fun _=>⟨(aD _ h2 h1).2,by omega,h3⟩) aj (fun i h j az=>by rw[QH (w:=w) (aD _ h2 h1).1];exact ah i h j az) (fun i h j az=>aA i h j az (aH:=fun _=>none) (fun _ _ h=>by cases h) aD) ar hf eU
 |rb=>exact .rb
 |mp h=>exact .mp (hm _ _ h)
 |oI hf bY ah sw Kg Kh=>exact .oI hf (fun i h h'=>Kg i h h' hm aD) ah (fun i h h'=>Kh i h h' hm aD)
 |tV h=>exact .tV (hm _ _ h)
 |iP=>exact .iP
 |it _ aA=>exact .it (aA hm aD)
 |fz=>exact .fz
 |ag aj _ hf aA=>exact .ag aj (fun i h h'=>aA i h h' hm aD) hf
 |bJ aj _ aA=>exact .bJ aj (fun i h h'=>aA i h h' hm aD)
 |h4 h hn=>exact .h4 h hn
 |gD h=>exact .gD h
 |iQ n h=>exact .iQ n h
 |y h=>exact .y h
 |g1 hu _ aA=>exact .g1 hu (aA (fun _ _ h=>by cases h) aD)
 |fo k h=>exact .fo k h
 |gv k h h'=>exact .gv k h h'
 |ix hn bx _ aA=>exact .ix hn bx (aA hm aD)
theorem R.up{w:World}{m:Nat→Option Nat}{O:Nat→Prop}{B:Nat}{v:AV}{u:Value}(h:R w (fun _=>none) O B v u):R w m O B v u:=
 h.mono (fun _ _ h=>by cases h) (o _) (fun _ _ h=>h) (fun _ _ h=>⟨rfl,h⟩)
def AO.isDead:AO→Bool
 | .dead=>true
 |_=>false
def live(I:af)(id:Nat):Prop:=∃J,I.get id=some J∧J.isDead=false
def a_(I:af)(m:Nat→Option Nat)(ax:Nat):Prop:=∃id,m id=some ax∧live I id
def xb(f:Nat)(I:af)(m:Nat→Option Nat)(ax:Nat):Prop:=∃id,f≤id∧m id=some ax∧live I id
def Fx(P:Program):Option bB→Option Code→Prop
 |none,none=>True
 |some c,some d=>ccode P d=some c∧(c= .ret∨∃id,c= .exit id)
 |_,_=>False
inductive mb(P:Program)(w:World)(m:Nat→Option Nat)(O:Nat→Prop)(B:Nat):AO→Obj→Prop
 |cells {c:List AV} {arr:Array Value} {el:TypeId} {aV:Nat×Nat} (ar:c.length≤arr.size) (al:∀i (h:i<c.length) (h':i<arr.size),R w m O B (c[i]) (arr[i]))
   (bg:∀i,i<arr.size→(decide (aV.1≤i)&&decide (i<aV.2))=false) (hf:∀x∈c,conf none x=true):mb P w m O B (.cells c) (.cells arr el aV)
 |map {es:List (AV×AV×Nat)} {dI:Array MapEntry} {clock:Nat} (ar:dI.size=es.length)
   (al:∀i (h:i<es.length) (h':i<dI.size),R w m O B (es[i]).1 (dI[i]).key∧R w m O B (es[i]).2.1 (dI[i]).val∧(dI[i]).born=(es[i]).2.2):mb P w m O B (.map es clock) (.map dI clock)
 |mapIter {id:Option Nat} {b:Option Nat} {since hk:Nat} {seen:List Nat} (hb:match id,b with|none,none=>True|some i,some j=>m i=some j|_,_=>False):
   mb P w m O B (.mapIter id since seen hk) (.mapIter b since seen.toArray hk)
 |loop {st:LoopState} {kE:Option bB} {nT:Option Code} {bk:aT AV} {tmps:Array Value} {ps:List Nat} {as b:bB} {hz gL:Code} {d D:Nat} {fn:FuncId}
   (lR:Fx P kE nT) (aj:jf w m O B bk tmps.toList) (ha:ccode P hz=some as) (hb:ccode P gL=some b) (au:m d=some D):
   mb P w m O B (.loop st kE bk ps as b d) (.loop {state:=st,pending:=nT,fn,tmps,params:=ps.toArray,assign:=hz,body:=gL,defers:=D})
 |g2:mb P w m O B .g2 (.deferred (some []))
 |eT {c:List AV} {r:Nat} {arr:Array Value} {el:TypeId} {aV:Nat×Nat} (ar:c.length+r≤arr.size) (al:∀i (h:i<c.length) (h':i<arr.size),R w m O B (c[i]) (arr[i]))
   (bg:∀i,i<arr.size→(decide (aV.1≤i)&&decide (i<aV.2))=false) (hf:∀x∈c,conf none x=true):mb P w m O B (.eT c r) (.cells arr el aV)
theorem bz.mono{w an:World}{m aH:Nat→Option Nat}{O re:Nat→Prop}{B:Nat}(hm:∀id ax,m id=some ax→aH id=some ax)(bV:w.heap.size≤an.heap.size)
  (gT:∀b n,dU w b=some n→dU an b=some n) (aD:∀ax,ax<w.heap.size→¬O ax→an.heap[ax]? =w.heap[ax]? ∧¬re ax) {l:List AV} {a3:List Value} (h:bz w m O B l a3):bz an aH re B l a3:=
 ⟨h.1,fun i hi cS=>(h.2 i hi cS).mono hm bV gT aD⟩
theorem jf.mono{w an:World}{m aH:Nat→Option Nat}{O re:Nat→Prop}{B:Nat}(hm:∀id ax,m id=some ax→aH id=some ax)(bV:w.heap.size≤an.heap.size)
  (gT:∀b n,dU w b=some n→dU an b=some n) (aD:∀ax,ax<w.heap.size→¬O ax→an.heap[ax]? =w.heap[ax]? ∧¬re ax) {l:aT AV} {a3:List Value} (h:jf w m O B l a3):jf an aH re B l a3:=
 ⟨fun i v hi=>let⟨u,h1,h2⟩:=h.1 i v hi;⟨u,h1,h2.mono hm bV gT aD⟩,h.2⟩
theorem mb.mono{P:Program}{w an:World}{m aH:Nat→Option Nat}{O re:Nat→Prop}{B:Nat}(hm:∀id ax,m id=some ax→aH id=some ax)(bV:w.heap.size≤an.heap.size)
  (gT:∀b n,dU w b=some n→dU an b=some n) (aD:∀ax,ax<w.heap.size→¬O ax→an.heap[ax]? =w.heap[ax]? ∧¬re ax) {J:AO} {b7:Obj} (h:mb P w m O B J b7):mb P an aH re B J b7:=by
 cases h with
 |cells ar al bg hf=>exact .cells ar (fun i h h'=>(al i h h').mono hm bV gT aD) bg hf
 |map ar al=>exact .map ar (fun i h h'=>⟨(al i h h').1.mono hm bV gT aD,(al i h h').2.1.mono hm bV gT aD,(al i h h').2.2⟩)
 | @mapIter id b _ _ _ hb=>exact .mapIter (by cases id<;>cases b<;>first|exact hb|exact hm _ _ hb)
 |loop lR aj ha hb au=>exact .loop lR (aj.mono hm bV gT aD) ha hb (hm _ _ au)
 |g2=>exact .g2
 |eT ar al bg hf=>exact .eT ar (fun i h h'=>(al i h h').mono hm bV gT aD) bg hf
structure Rel(P:Program)(I:af)(w:World)(m:Nat→Option Nat)(B:Nat):Prop where
 len:True
 fa:∀id ax,m id=some ax→ax<w.heap.size∧id<I.next
 obj:∀id ax J,m id=some ax→I.get id=some J→J.isDead=false→∃b7,w.heap[ax]? =some b7∧mb P w m (a_ I m) B J b7
 inj:∀id fb ax,m id=some ax→m fb=some ax→live I id→live I fb→id=fb
 base:∀id ax,m id=some ax→B≤ax
 cE:B≤w.heap.size
structure Ext(f:Nat)(I:af)(w:World)(m:Nat→Option Nat)(aq:af)(an:World)(aH:Nat→Option Nat):Prop where
 mono:∀id ax,m id=some ax→aH id=some ax
 new:∀id ax,aH id=some ax→m id=some ax∨(I.next≤id∧(w.heap.size≤ax∨xb f I m ax))
 next:I.next≤aq.next
 size:w.heap.size≤an.heap.size
 fJ:∀b n,dU w b=some n→dU an b=some n
 aF:∀ax,ax<w.heap.size→¬xb f I m ax→an.heap[ax]? =w.heap[ax]?
 low:∀id,id<f→id<I.next→aq.get id=I.get id
 dead:∀id,id<I.next→live aq id→live I id
 os:an.os=w.os
 tape:an.tape=w.tape
 out:an.output=w.output
 un:∀id,id<I.next→m id=none→aq.get id=I.get id
theorem xb.own{f:Nat}{I:af}{m:Nat→Option Nat}{ax:Nat}(h:xb f I m ax):a_ I m ax:=let⟨id,_,h1,h2⟩:=h;⟨id,h1,h2⟩
theorem Ext.refl(f:Nat)(I:af)(w:World)(m:Nat→Option Nat):Ext f I w m I w m:=
 ⟨fun _ _ h=>h,fun _ _ h=>.inl h,o _,o _,fun _ _ h=>h,fun _ _ _=>rfl,fun _ _ _=>rfl,fun _ _ h=>h,rfl,rfl,rfl,fun _ _ _=>rfl⟩
theorem Ext.rf{P:Program}{f:Nat}{I aq:af}{w an:World}{m aH:Nat→Option Nat}{B:Nat}(h:Ext f I w m aq an aH)(al:Rel P I w m B)(ax:Nat)(hb:ax<w.heap.size)(db:¬a_ I m ax):
  an.heap[ax]? =w.heap[ax]? ∧¬a_ aq aH ax:=by
 refine⟨h.aF ax hb (fun ab=>db ab.own),?_⟩;rintro⟨id,h1,h2⟩;rcases h.new id ax h1 with h3|⟨_,h3|h3⟩
 ·exact db ⟨id,h3,h.dead id (al.fa _ _ h3).2 h2⟩
 ·omega
 ·exact db h3.own
theorem R.ext{P:Program}{f:Nat}{I aq:af}{w an:World}{m aH:Nat→Option Nat}{B:Nat}(h:Ext f I w m aq an aH)(al:Rel P I w m B){v:AV}{u:Value}(av:R w m (a_ I m) B v u):R an aH (a_ aq aH) B v u:=
 av.mono h.mono h.size h.fJ (h.rf al)
theorem jf.ext{P:Program}{f:Nat}{I aq:af}{w an:World}{m aH:Nat→Option Nat}{B:Nat}(h:Ext f I w m aq an aH)(al:Rel P I w m B){v:aT AV}{u:List Value}(av:jf w m (a_ I m) B v u):jf an aH (a_ aq aH) B v u:=
 av.mono h.mono h.size h.fJ (h.rf al)
theorem bz.ext{P:Program}{f:Nat}{I aq:af}{w an:World}{m aH:Nat→Option Nat}{B:Nat}(h:Ext f I w m aq an aH)(al:Rel P I w m B){v:List AV}{u:List Value}(av:bz w m (a_ I m) B v u):bz an aH (a_ aq aH) B v u:=
 av.mono h.mono h.size h.fJ (h.rf al)
theorem Ext.trans{P:Program}{f:Nat}{I aq QI:af}{w an zk:World}{m aH QJ:Nat→Option Nat}{B:Nat}(h:Ext f I w m aq an aH)(al:Rel P I w m B)(h':Ext f aq an aH QI zk QJ):Ext f I w m QI zk QJ where
 mono id ax hb:=h'.mono _ _ (h.mono _ _ hb)
 new id ax hb:=by
  have key:∀b,xb f aq aH b→w.heap.size≤b∨xb f I m b:=by
   rintro b ⟨i,hf,h1,h2⟩;rcases h.new i b h1 with h3|⟨_,h3⟩
   ·exact .inr ⟨i,hf,h3,h.dead i (al.fa _ _ h3).2 h2⟩
   ·exact h3
  rcases h'.new id ax hb with h1|⟨h1,h2⟩
  ·rcases h.new id ax h1 with h3|⟨h3,aE⟩
   ·exact .inl h3
   ·exact .inr ⟨h3,aE⟩
  ·refine .inr ⟨by have:=h.next;omega,?_⟩;rcases h2 with h2|h2
   ·exact .inl (by have:=h.size;omega)
   ·exact key _ h2
 next:=l_ h.next h'.next
 size:=l_ h.size h'.size
 fJ b n hb:=h'.fJ _ _ (h.fJ _ _ hb)
 aF ax hb db:=by
  have aj:=h.size;rw[h'.aF ax (by omega) ?_,h.aF ax hb db];rintro⟨i,hf,h1,h2⟩;rcases h.new i ax h1 with h3|⟨_,h3|h3⟩
  ·exact db ⟨i,hf,h3,h.dead i (al.fa _ _ h3).2 h2⟩
  ·omega
  ·exact db h3
 low id hf hn:=by rw[h'.low id hf (by have:=h.next;omega),h.low id hf hn]
 dead id hn ar:=h.dead id hn (h'.dead id (by have:=h.next;omega) ar)
 os:=h'.os.trans h.os
 tape:=h'.tape.trans h.tape
 out:=h'.out.trans h.out
 un id hn hm:=by
  have oJ:aH id=none:=by
   cases e:aH id with
   |none=>rfl
   |some b=>
    rcases h.new id b e with h3|⟨h3,_⟩
    ·rw[hm] at h3;cases h3
    ·omega
  rw[h'.un id (by have:=h.next;omega) oJ,h.un id hn hm]
theorem BO{α:Type}(l:List α):∀n,nth l n=l[n]? :=by
 induction l with
 |nil=>intro n;rfl
 |cons x xs aA=>
  intro n;cases n with
  |zero=>rfl
  |succ n=>exact(aA n).trans (by simp)
theorem BP{α β:Type}(f:α→Option β):mapO f []=some []:=rfl
theorem mapO_cons{α β:Type}(f:α→Option β)(x:α)(xs:List α):mapO f (x::xs)=match f x with|none=>none|some y=>match mapO f xs with|none=>none|some aO=>some (y::aO):=rfl
theorem mc{α β:Type}{f:α→Option β}:∀ {l:List α} {aO:List β},mapO f l=some aO→aO.length=l.length∧∀i (h:i<l.length) (h':i<aO.length),f (l[i])=some (aO[i])
 |[],aO,h=>by simp[BP] at h;subst h;simp
 |x::xs,aO,h=>by
  rw[mapO_cons] at h;cases hx:f x with
  |none=>simp[hx] at h
  |some y=>
   simp only[hx] at h;cases dj:mapO f xs with
   |none=>simp[dj] at h
   |some gE=>
    simp only[dj,a6] at h;subst h;obtain⟨h1,h2⟩:=mc dj;refine⟨by simp[h1],fun i hi cS=>?_⟩;cases i with
    |zero=>simpa using hx
    |succ i=>simpa using h2 i (by simpa using hi) (by simpa using cS)
theorem ph{i:Nat}(h:i≠0):(Nat.beq (Nat.mod i 2) 1=true∧i=2*Nat.div (Nat.sub i 1) 2+1)∨(Nat.beq (Nat.mod i 2) 1=false∧i=2*Nat.div (Nat.sub i 1) 2+2):=by
 have aM:Nat.mod i 2=i%2:=rfl;have e2:Nat.div (Nat.sub i 1) 2=(i-1)/2:=rfl;rw[aM,e2];rcases Nat.mod_two_eq_zero_or_one i with h2|h2
 ·right;rw[h2];exact⟨rfl,by omega⟩
 ·left;rw[h2];exact⟨rfl,by omega⟩
section
variable {α:Type}
theorem aT.get_nil(i:Nat):(aT.nil:aT α).get i=none:=rfl
theorem rh{α:Type}(t:Bool)(a b:α):(Bool.rec (motive:=fun _=>α) b a t:α)=cond t a b:=by cases t<;>rfl
theorem aT.kF(v:Option α)(l r:aT α)(i:Nat):(aT.node v l r).get i=cond (Nat.beq i 0) v (cond (Nat.beq (Nat.mod i 2) 1) (l.get (Nat.div (Nat.sub i 1) 2)) (r.get (Nat.div (Nat.sub i 1) 2))):=(rh _ _ _).trans (congrArg (cond _ _) (rh _ _ _))
theorem aT.Ki(v:Option α)(l r:aT α)(i:Nat)(x:α):(aT.node v l r).set i x=cond (Nat.beq i 0) (.node (match v with|some _=>some x|none=>none) l r)
  (cond (Nat.beq (Nat.mod i 2) 1) (.node v (l.set (Nat.div (Nat.sub i 1) 2) x) r) (.node v l (r.set (Nat.div (Nat.sub i 1) 2) x))):=by cases v<;>exact(rh _ _ _).trans (congrArg (cond _ _) (rh _ _ _))
theorem aT.a1O(i:Nat)(x:α):(aT.nil:aT α).ins i x=aT.zd (i+1) i x:=rfl
theorem aT.a1P(v:Option α)(l r:aT α)(i:Nat)(x:α):(aT.node v l r).ins i x=cond (Nat.beq i 0) (.node (some x) l r)
  (cond (Nat.beq (Nat.mod i 2) 1) (.node v (l.ins (Nat.div (Nat.sub i 1) 2) x) r) (.node v l (r.ins (Nat.div (Nat.sub i 1) 2) x))):=(rh _ _ _).trans (congrArg (cond _ _) (rh _ _ _))
theorem aT.a1Q(f i:Nat)(x:α):aT.zd (f+1) i x=cond (Nat.beq i 0) (.node (some x) .nil .nil) (cond (Nat.beq (Nat.mod i 2) 1) (.node none (aT.zd f (Nat.div (Nat.sub i 1) 2) x) .nil) (.node none .nil (aT.zd f (Nat.div (Nat.sub i 1) 2) x))):=(rh _ _ _).trans (congrArg (cond _ _) (rh _ _ _))
theorem aT.QK(f n:Nat)(x:α):aT.full (f+1) x n=cond (Nat.beq n 0) .nil (.node (some x) (aT.full f x (Nat.div n 2)) (aT.full f x (Nat.div (Nat.sub n 1) 2))):=rfl
theorem j3{i:Nat}(h:i≠0):Nat.beq i 0=false:=by
 cases h1:Nat.beq i 0 with
 |false=>rfl
 |true=>exact absurd (fm h1) h
theorem aT.jg:∀(t:aT α) (d i:Nat) (x:α),(t.set d x).get i=if i=d then(t.get d).map (fun _=>x) else t.get i
 | .nil,d,i,x=>by
  show(aT.nil:aT α).get i=_;rw[aT.get_nil,aT.get_nil];simp
 | .node v l r,d,i,x=>by
  rw[aT.Ki];by_cases au:d=0
  ·subst au;rw[fy,cond_true,aT.kF,aT.kF,aT.kF];by_cases hi:i=0
   ·subst hi;rw[fy,cond_true,cond_true,if_pos rfl];cases v<;>rfl
   ·rw[j3 hi,cond_false,cond_false,if_neg hi]
  ·rw[j3 au,cond_false];rcases ph au with⟨h1,h2⟩|⟨h1,h2⟩
   ·rw[h1,cond_true,aT.kF,aT.kF,aT.kF,j3 au,cond_false,h1,cond_true];by_cases hi:i=0
    ·subst hi;rw[fy,cond_true,cond_true,if_neg (oa au)]
    ·rw[j3 hi,cond_false,cond_false];rcases ph hi with⟨h3,aE⟩|⟨h3,aE⟩
     ·rw[h3,cond_true,cond_true,aT.jg l];by_cases he:i=d
      ·subst he;rw[if_pos rfl,if_pos rfl]
      ·rw[if_neg he,if_neg (by omega)]
     ·rw[h3,cond_false,cond_false,if_neg (by omega)]
   ·rw[h1,cond_false,aT.kF,aT.kF,aT.kF,j3 au,cond_false,h1,cond_false];by_cases hi:i=0
    ·subst hi;rw[fy,cond_true,cond_true,if_neg (oa au)]
    ·rw[j3 hi,cond_false,cond_false];rcases ph hi with⟨h3,aE⟩|⟨h3,aE⟩
     ·rw[h3,cond_true,cond_true,if_neg (by omega)]
     ·rw[h3,cond_false,cond_false,aT.jg r];by_cases he:i=d
      ·subst he;rw[if_pos rfl,if_pos rfl]
      ·rw[if_neg he,if_neg (by omega)]
theorem aT.Kj:∀(f d i:Nat) (x:α),d<f→(aT.zd f d x).get i=if i=d then some x else none
 |0,d,i,x,h=>by omega
 |f+1,d,i,x,h=>by
  rw[aT.a1Q];by_cases au:d=0
  ·subst au;rw[fy,cond_true,aT.kF];by_cases hi:i=0
   ·subst hi;rw[fy,cond_true,if_pos rfl]
   ·rw[j3 hi,cond_false,if_neg hi,aT.get_nil];cases Nat.beq (Nat.mod i 2) 1<;>rfl
  ·rw[j3 au,cond_false];rcases ph au with⟨h1,h2⟩|⟨h1,h2⟩
   ·rw[h1,cond_true,aT.kF];by_cases hi:i=0
    ·subst hi;rw[fy,cond_true,if_neg (oa au)]
    ·rw[j3 hi,cond_false];rcases ph hi with⟨h3,aE⟩|⟨h3,aE⟩
     ·rw[h3,cond_true,aT.Kj f _ _ x (by omega)];by_cases he:i=d
      ·subst he;rw[if_pos rfl,if_pos rfl]
      ·rw[if_neg he,if_neg (by omega)]
     ·rw[h3,cond_false,if_neg (by omega),aT.get_nil]
   ·rw[h1,cond_false,aT.kF];by_cases hi:i=0
    ·subst hi;rw[fy,cond_true,if_neg (oa au)]
    ·rw[j3 hi,cond_false];rcases ph hi with⟨h3,aE⟩|⟨h3,aE⟩
     ·rw[h3,cond_true,if_neg (by omega),aT.get_nil]
     ·rw[h3,cond_false,aT.Kj f _ _ x (by omega)];by_cases he:i=d
      ·subst he;rw[if_pos rfl,if_pos rfl]
      ·rw[if_neg he,if_neg (by omega)]
theorem aT.BQ:∀(t:aT α) (d i:Nat) (x:α),(t.ins d x).get i=if i=d then some x else t.get i
 | .nil,d,i,x=>by rw[aT.a1O,aT.Kj _ _ _ _ (qc d),aT.get_nil]
 | .node v l r,d,i,x=>by
  rw[aT.a1P];by_cases au:d=0
  ·subst au;rw[fy,cond_true,aT.kF,aT.kF];by_cases hi:i=0
   ·subst hi;rw[fy,cond_true,if_pos rfl]
   ·rw[j3 hi,cond_false,cond_false,if_neg hi]
  ·rw[j3 au,cond_false];rcases ph au with⟨h1,h2⟩|⟨h1,h2⟩
   ·rw[h1,cond_true,aT.kF,aT.kF];by_cases hi:i=0
    ·subst hi;rw[fy,cond_true,cond_true,if_neg (oa au)]
    ·rw[j3 hi,cond_false,cond_false];rcases ph hi with⟨h3,aE⟩|⟨h3,aE⟩
     ·rw[h3,cond_true,cond_true,aT.BQ l];by_cases he:i=d
      ·subst he;rw[if_pos rfl,if_pos rfl]
      ·rw[if_neg he,if_neg (by omega)]
     ·rw[h3,cond_false,cond_false,if_neg (by omega)]
   ·rw[h1,cond_false,aT.kF,aT.kF];by_cases hi:i=0
    ·subst hi;rw[fy,cond_true,cond_true,if_neg (oa au)]
    ·rw[j3 hi,cond_false,cond_false];rcases ph hi with⟨h3,aE⟩|⟨h3,aE⟩
     ·rw[h3,cond_true,cond_true,if_neg (by omega)]
     ·rw[h3,cond_false,cond_false,aT.BQ r];by_cases he:i=d
      ·subst he;rw[if_pos rfl,if_pos rfl]
      ·rw[if_neg he,if_neg (by omega)]
theorem aT.Fy:∀(f n i:Nat) (x:α),i<n→n≤f→(aT.full f x n).get i=some x
 |0,n,i,x,h,hf=>by omega
 |f+1,n,i,x,h,hf=>by
  rw[aT.QK];have hn:n≠0:=by omega
  rw[j3 hn,cond_false,aT.kF];have aM:Nat.div n 2=n/2:=rfl;have e2:Nat.div (Nat.sub n 1) 2=(n-1)/2:=rfl;by_cases hi:i=0
  ·subst hi;rw[fy,cond_true]
  ·rw[j3 hi,cond_false];rcases ph hi with⟨h3,aE⟩|⟨h3,aE⟩
   ·rw[h3,cond_true];exact aT.Fy f _ _ x (by rw[aM];omega) (by rw[aM];omega)
   ·rw[h3,cond_false];exact aT.Fy f _ _ x (by rw[e2];omega) (by rw[e2];omega)
theorem aT.Fz:∀(f n i:Nat) (x y:α),(aT.full f x n).get i=some y→y=x∧i<n
 |0,n,i,x,y,h=>by
  have h:(aT.nil:aT α).get i=some y:=h;rw[aT.get_nil] at h;cases h
 |f+1,n,i,x,y,h=>by
  rw[aT.QK] at h;by_cases hn:n=0
  ·subst hn;rw[fy,cond_true,aT.get_nil] at h;cases h
  ·rw[j3 hn,cond_false,aT.kF] at h;have aM:Nat.div n 2=n/2:=rfl;have e2:Nat.div (Nat.sub n 1) 2=(n-1)/2:=rfl;by_cases hi:i=0
   ·subst hi;rw[fy,cond_true] at h;cases h;exact⟨rfl,by omega⟩
   ·rw[j3 hi,cond_false] at h;rcases ph hi with⟨h3,aE⟩|⟨h3,aE⟩
    ·rw[h3,cond_true] at h;have:=aT.Fz f _ _ x y h;exact⟨this.1,by rw[aM] at this;omega⟩
    ·rw[h3,cond_false] at h;have:=aT.Fz f _ _ x y h;exact⟨this.1,by rw[e2] at this;omega⟩
end
section
variable {α:Type}
theorem QL(f i:Nat):w6 (f+1) i=cond (Nat.beq i 0) .h (cond (Nat.beq (Nat.mod i 2) 1) (.l (w6 f (Nat.div (Nat.sub i 1) 2))) (.r (w6 f (Nat.div (Nat.sub i 1) 2)))):=
 (rh _ _ _).trans (congrArg (cond _ _) (rh _ _ _))
theorem aT.FA:∀(f i:Nat) (t:aT α),i<f→aT.Fp (w6 f i) t=t.get i
 |0,i,t,h=>absurd h (Nat.not_lt_zero _)
 |f+1,i,t,h=>by
  rw[QL];by_cases hi:i=0
  ·subst hi;cases t<;>rfl
  ·rw[j3 hi,cond_false];have bZ:Nat.div (Nat.sub i 1) 2<f:=by show(i-1)/2<f;omega
   rcases ph hi with⟨h1,_⟩|⟨h1,_⟩
   ·rw[h1,cond_true];cases t with
    |nil=>rfl
    |node v l r=>rw[aT.kF,j3 hi,cond_false,h1,cond_true];exact aT.FA f _ l bZ
   ·rw[h1,cond_false];cases t with
    |nil=>rfl
    |node v l r=>rw[aT.kF,j3 hi,cond_false,h1,cond_false];exact aT.FA f _ r bZ
theorem aT.Kk(x:α):∀(f i:Nat) (t:aT α),i<f→aT.Qu x (w6 f i) t=t.set i x
 |0,i,t,h=>absurd h (Nat.not_lt_zero _)
 |f+1,i,t,h=>by
  rw[QL];by_cases hi:i=0
  ·subst hi;cases t<;>rfl
  ·rw[j3 hi,cond_false];have bZ:Nat.div (Nat.sub i 1) 2<f:=by show(i-1)/2<f;omega
   rcases ph hi with⟨h1,_⟩|⟨h1,_⟩
   ·rw[h1,cond_true];cases t with
    |nil=>rfl
    |node v l r=>rw[aT.Ki,j3 hi,cond_false,h1,cond_true];exact congrArg (fun l=>aT.node v l r) (aT.Kk x f _ l bZ)
   ·rw[h1,cond_false];cases t with
    |nil=>rfl
    |node v l r=>rw[aT.Ki,j3 hi,cond_false,h1,cond_false];exact congrArg (fun r=>aT.node v l r) (aT.Kk x f _ r bZ)
end
theorem Kl:ze=evalA:=by
 funext env ak x
 cases x with
 |t i=>exact aT.FA _ _ _ (qc i)
 |c v=>rfl
 |g g=>rfl
theorem QM:Fr.oD=Fr.put:=by
 funext ai d v
 cases d with
 |none=>rfl
 |some d=>exact congrArg (fun s=>Fr.mk s ai.defers ai.fA) (aT.Kk v _ _ _ (qc d))
theorem QN:Fs=wantedA:=by
 funext g ak
 cases g with
 |none=>rfl
 |some p=>
  obtain⟨d,w⟩:=p;show(match aT.Fp (w6 (d+1) d) ak with|some (.b x)=>x==w|_=>false)=_;rw[aT.FA _ _ _ (qc d)];rfl
theorem a1R(env:Env)(aA:jv):Qy env aA=step env aA:=by
 funext floor aI c ai I
 cases c with
 |cond c a b=>
  show(match ze env ai.bk c with|some (.b t)=>aA floor aI (cond t a b) ai I|_=>none)=_;rw[Kl];rfl
 |_=>rfl
theorem af.get_eq(I:af)(id:Nat):I.get id=if id<I.next then I.w7.get id else none:=by
 unfold af.get;by_cases h:id<I.next
 ·have hb:Nat.blt id I.next=true:=by simpa [gg] using h
  rw[hb,cond_true,if_pos h]
 ·have hb:Nat.blt id I.next=false:=by
   cases hb:Nat.blt id I.next
   ·rfl
   ·exact absurd (by simpa [gg] using hb) h
  rw[hb,cond_false,if_neg h]
theorem af.bW{I:af}{id:Nat}{J:AO}(h:I.get id=some J):id<I.next:=by
 rw[af.get_eq] at h;split at h
 ·assumption
 ·cases h
theorem af.iB{I:af}(_hl:True)(J:AO){id:Nat}(h:id<I.next):(I.push J).get id=I.get id:=by
 rw[af.get_eq,af.get_eq,if_pos h,if_pos (show id<(I.push J).next from zA h)];show(I.w7.ins I.next J).get id=_;rw[aT.BQ,if_neg (by omega)]
theorem af.md{I:af}(J:AO):(I.push J).get I.next=some J:=by
 rw[af.get_eq,if_pos (show I.next<(I.push J).next from qc _)];show(I.w7.ins I.next J).get I.next=_;rw[aT.BQ,if_pos rfl]
theorem af.Km{I:af}(ar:True)(J:AO)(id:Nat):(I.push J).get id=if id=I.next then some J else I.get id:=by
 by_cases h:id=I.next
 ·subst h;simp[af.md]
 ·rw[if_neg h];by_cases h':id<I.next
  ·exact af.iB ar J h'
  ·rw[af.get_eq,af.get_eq,if_neg (show ¬id<(I.push J).next from fun h2=>h (by have:id<I.next+1:=h2;omega)),if_neg h']
theorem af.jg{I:af}(_hl:True){id:Nat}(J:AO)(h:id<I.next)(fb:Nat):(I.set id J).get fb=if fb=id then some J else I.get fb:=by
 rw[af.get_eq,af.get_eq];show(if fb<I.next then(I.w7.ins id J).get fb else none)=_;by_cases h':fb<I.next
 ·rw[if_pos h',if_pos h',aT.BQ]
 ·rw[if_neg h',if_neg h',if_neg (by omega)]
end
section
variable [Tok]
open Go.RowKit
def wr:Array Value→Nat→List Value→Array Value
 |arr,_,[]=>arr
 |arr,J,v::r=>wr (arr.setIfInBounds J v) (J+1) r
theorem sx:∀(a3:List Value) (arr:Array Value) (J:Nat),(wr arr J a3).size=arr.size
 |[],_,_=>rfl
 |v::r,arr,J=>by rw[wr,sx r];simp
theorem zl:∀(a3:List Value) (arr:Array Value) (J i:Nat),J+a3.length≤arr.size→(wr arr J a3)[i]? =if J≤i∧i<J+a3.length then a3[i-J]? else arr[i]?
 |[],arr,J,i,_=>by rw[wr,if_neg (fun h=>by simp at h;omega)]
 |v::r,arr,J,i,h=>by
  have h':J+1+r.length≤(arr.setIfInBounds J v).size:=by simp at h ⊢;omega
  rw[wr,zl r _ (J+1) i h'];simp only[fH] at h ⊢;by_cases h1:J+1≤i∧i<J+1+r.length
  ·rw[if_pos h1,if_pos (by omega),show i-J=(i-(J+1))+1 by omega,z1]
  ·rw[if_neg h1];by_cases h2:i=J
   ·subst h2;rw[if_pos (by omega)];simp[BB];omega
   ·rw[if_neg (by omega),Ie (fun e=>h2 e.symm)]
theorem heap_setCell_same{w:World}{b J:Nat}{v:Value}{arr:Array Value}{el:TypeId}{aV:Nat×Nat}(h:w.heap[b]? =some (.cells arr el aV)):
  (w.setCell ⟨b,J,none⟩ v).heap[b]? =some (.cells (arr.setIfInBounds J v) el aV):=by
 simp[World.setCell,Array.getElem?_modify,h]
theorem FB:∀(a3:List Value) (w:World) (b J:Nat) (arr:Array Value) (el:TypeId) (aV:Nat×Nat),w.heap[b]? =some (.cells arr el aV)→
  (w.setCells b J a3).heap[b]? =some (.cells (wr arr J a3) el aV)
 |[],w,b,J,arr,el,aV,h=>h
 |v::r,w,b,J,arr,el,aV,h=>by
  rw[World.setCells,wr];exact FB r _ b (J+1) _ el aV (heap_setCell_same h)
theorem heap_setCells_other:∀(a3:List Value) (w:World) (b J k:Nat),k≠b→(w.setCells b J a3).heap[k]? =w.heap[k]?
 |[],w,b,J,k,h=>rfl
 |v::r,w,b,J,k,h=>by
  rw[World.setCells,heap_setCells_other r _ b (J+1) k h];exact Below.heap_setCell w ⟨b,J,none⟩ v k h
theorem FC:∀(a3:List Value) (w:World) (b J:Nat),(w.setCells b J a3).heap.size=w.heap.size∧(w.setCells b J a3).os=w.os∧(w.setCells b J a3).tape=w.tape∧(w.setCells b J a3).output=w.output
 |[],w,b,J=>⟨rfl,rfl,rfl,rfl⟩
 |v::r,w,b,J=>by
  rw[World.setCells];obtain⟨h1,h2,h3,aE⟩:=FC r (w.setCell ⟨b,J,none⟩ v) b (J+1);exact⟨by rw[h1];simp,by rw[h2];rfl,by rw[h3];rfl,by rw[aE];rfl⟩
theorem zm{w:World}{b:Nat}{J:Obj}(h:w.heap[b]? =some J):b<w.heap.size:=(xy.1 h).1
def bindM(m:Nat→Option Nat)(i b:Nat):Nat→Option Nat:=fun id=>if id=i then some b else m id
theorem hB(m:Nat→Option Nat)(i b:Nat):bindM m i b i=some b:=by simp[bindM]
theorem jh(m:Nat→Option Nat)(i b:Nat){id:Nat}(h:id≠i):bindM m i b id=m id:=by simp[bindM,h]
section
variable {P:Program}{I:af}{w:World}{m:Nat→Option Nat}{B:Nat}
theorem Rel.a1S(al:Rel P I w m B):m I.next=none:=by
 cases h:m I.next with
 |none=>rfl
 |some b=>have:=(al.fa _ _ h).2;omega
theorem Rel.QO(al:Rel P I w m B){ax:Nat}(h:a_ I m ax):ax<w.heap.size:=let⟨_,h1,_⟩:=h;(al.fa _ _ h1).1
theorem Kn(al:Rel P I w m B){J:AO}(ab:J.isDead=false)(id:Nat):live (I.push J) id↔id=I.next∨live I id:=by
 unfold live;rw[af.Km al.len];by_cases h:id=I.next
 ·subst h;simp[ab]
 ·simp[h]
theorem QP{id:Nat}(h:live I id):id<I.next:=let⟨_,h1,_⟩:=h;af.bW h1
theorem Rel.alloc(al:Rel P I w m B)(f:Nat)(an:World)(J:AO)(b7:Obj)(ab:J.isDead=false)(hh:an.heap=w.heap.push b7)(ib:an.os=w.os)(mN:an.tape=w.tape)(jw:an.output=w.output)
  (lS:mb P w m (a_ I m) B J b7):Rel P (I.push J) an (bindM m I.next w.heap.size) B∧Ext f I w m (I.push J) an (bindM m I.next w.heap.size):=by
 have bV:an.heap.size=w.heap.size+1:=by rw[hh];simp
 have hold:∀b,b<w.heap.size→an.heap[b]? =w.heap[b]? :=fun b hb=>by
  rw[hh,Ig];rw[if_neg (by omega)]
 have pj:an.heap[w.heap.size]? =some b7:=by rw[hh];simp
 have dx:Ext f I w m (I.push J) an (bindM m I.next w.heap.size):=by
  refine⟨?_,?_,Ih _,by omega,?_,fun b hb _=>hold b hb,?_,?_,ib,mN,jw,fun id hn _=>af.iB al.len J hn⟩
  ·intro id ax h;rw[jh m _ _ (by have:=(al.fa _ _ h).2;omega)];exact h
  ·intro id ax h;by_cases hi:id=I.next
   ·subst hi;rw[hB] at h;cases h;exact .inr ⟨o _,.inl (o _)⟩
   ·rw[jh m _ _ hi] at h;exact .inl h
  ·intro b n hb;have:b<w.heap.size:=by
    rcases mK b w.heap.size with h|h
    ·exact h
    ·simp[dU,xz h] at hb
   unfold dU at hb ⊢;rw[hold b this];exact hb
  ·intro id _ hn;exact af.iB al.len J hn
  ·intro id hn ar;rcases(Kn al ab id).1 ar with h|h
   ·omega
   ·exact h
 refine⟨⟨trivial,?_,?_,?_,?_,by have:=al.cE;omega⟩,dx⟩
 ·intro id ax h;by_cases hi:id=I.next
  ·subst hi;rw[hB] at h;cases h;exact⟨by omega,qc _⟩
  ·rw[jh m _ _ hi] at h;have:=al.fa _ _ h;exact⟨by omega,zA this.2⟩
 ·intro id ax fc h hg au;by_cases hi:id=I.next
  ·subst hi;rw[hB] at h;cases h;rw[af.md] at hg;cases hg;exact⟨b7,pj,lS.mono dx.mono dx.size dx.fJ (dx.rf al)⟩
  ·rw[jh m _ _ hi] at h;have bZ:=al.fa _ _ h;rw[af.iB al.len J bZ.2] at hg;obtain⟨kZ,h1,h2⟩:=al.obj id ax fc h hg au;exact⟨kZ,by rw[hold _ bZ.1];exact h1,h2.mono dx.mono dx.size dx.fJ (dx.rf al)⟩
 ·intro id fb ax h h' ar mO;by_cases hi:id=I.next
  ·by_cases cS:fb=I.next
   ·rw[hi,cS]
   ·subst hi;rw[hB] at h;cases h;rw[jh m _ _ cS] at h';have:=(al.fa _ _ h').1;omega
  ·rw[jh m _ _ hi] at h;by_cases cS:fb=I.next
   ·subst cS;rw[hB] at h';cases h';have:=(al.fa _ _ h).1;omega
   ·rw[jh m _ _ cS] at h';exact al.inj id fb ax h h' (((Kn al ab id).1 ar).resolve_left hi) (((Kn al ab fb).1 mO).resolve_left cS)
 ·intro id ax h;by_cases hi:id=I.next
  ·subst hi;rw[hB] at h;cases h;exact al.cE
  ·rw[jh m _ _ hi] at h;exact al.base _ _ h
theorem a1T(al:Rel P I w m B){id:Nat}(h:id<I.next)(J:AO)(fb:Nat):live (I.set id J) fb↔if fb=id then J.isDead=false else live I fb:=by
 unfold live;rw[af.jg al.len J h];by_cases he:fb=id
 ·simp[he]
 ·simp[he]
theorem Rel.fq(al:Rel P I w m B){f id ax:Nat}(hf:f≤id)(hm:m id=some ax)(ar:live I id)(an:World)(J:AO)(bV:an.heap.size=w.heap.size)
  (xc:∀b,b≠ax→an.heap[b]? =w.heap[b]?) (gT:∀n,dU w ax=some n→dU an ax=some n) (ib:an.os=w.os) (mN:an.tape=w.tape) (jw:an.output=w.output)
  (lS:J.isDead=false→∃b7,an.heap[ax]? =some b7∧mb P w m (a_ I m) B J b7):Rel P (I.set id J) an m B∧Ext f I w m (I.set id J) an m:=by
 have bZ:=al.fa _ _ hm;have hC:∀fb,live (I.set id J) fb→live I fb:=fun fb h=>by
  rw[a1T al bZ.2] at h;by_cases he:fb=id
  ·subst he;exact ar
  ·rwa[if_neg he] at h
 have dx:Ext f I w m (I.set id J) an m:=by
  refine⟨fun _ _ h=>h,fun _ _ h=>.inl h,o _,by omega,?_,?_,?_,fun fb _ h=>hC fb h,ib,mN,jw,fun fb _ tW=>by rw[af.jg al.len J bZ.2,if_neg (fun e=>by subst e;rw[hm] at tW;cases tW)]⟩
  ·intro b n hb;by_cases he:b=ax
   ·subst he;exact gT n hb
   ·unfold dU at hb ⊢;rw[xc b he];exact hb
  ·intro b hb db;refine xc b fun he=>db ?_;subst he;exact⟨id,hf,hm,ar⟩
  ·intro fb FD hn;rw[af.jg al.len J bZ.2,if_neg (by omega)]
 refine⟨⟨trivial,fun fb b h=>by have:=al.fa _ _ h;exact⟨by omega,this.2⟩,?_,fun i eC b h h' a cd=>al.inj i eC b h h' (hC _ a) (hC _ cd),al.base,by have:=al.cE;omega⟩,dx⟩;intro fb b fc h hg au;by_cases he:fb=id
 ·subst he;rw[hm] at h;cases h;rw[af.jg al.len J bZ.2,if_pos rfl] at hg;cases hg;obtain⟨kZ,h1,h2⟩:=lS au;exact⟨kZ,h1,h2.mono dx.mono dx.size dx.fJ (dx.rf al)⟩
 ·rw[af.jg al.len J bZ.2,if_neg he] at hg;obtain⟨kZ,h1,h2⟩:=al.obj fb b fc h hg au;have bx:b≠ax:=fun e=>he (al.inj fb id ax (e▸h) hm ⟨fc,hg,au⟩ ar);exact⟨kZ,by rw[xc b bx];exact h1,h2.mono dx.mono dx.size dx.fJ (dx.rf al)⟩
theorem Rel.move(al:Rel P I w m B){f id ax:Nat}(hf:f≤id)(hm:m id=some ax)(ar:live I id)(an:World)(J:AO)(ab:J.isDead=false)(bV:an.heap.size=w.heap.size)
  (xc:∀b,b≠ax→an.heap[b]? =w.heap[b]?) (gT:∀n,dU w ax=some n→dU an ax=some n) (ib:an.os=w.os) (mN:an.tape=w.tape) (jw:an.output=w.output)
  (lS:∃b7,an.heap[ax]? =some b7∧mb P w m (a_ I m) B J b7):
  Rel P ((I.set id .dead).push J) an (bindM m I.next ax) B∧Ext f I w m ((I.set id .dead).push J) an (bindM m I.next ax):=by
 have bZ:=al.fa _ _ hm;have hlen:True:=trivial;have er:∀i,((I.set id .dead).push J).get i=if i=I.next then some J else if i=id then some .dead else I.get i:=fun i=>by
  rw[af.Km hlen J i];show(if i=I.next then some J else _)=_;by_cases h:i=I.next
  ·rw[if_pos h,if_pos h]
  ·rw[if_neg h,if_neg h,af.jg al.len .dead bZ.2]
 have hC:∀i,live ((I.set id .dead).push J) i↔i=I.next∨(i≠id∧live I i):=fun i=>by
  unfold live;rw[er i];by_cases h:i=I.next
  ·simp[h,ab]
  ·by_cases h':i=id
   ·subst h';simp[h,AO.isDead]
   ·simp[h,h']
 have dx:Ext f I w m ((I.set id .dead).push J) an (bindM m I.next ax):=by
  refine⟨?_,?_,Ih _,by omega,?_,?_,?_,?_,ib,mN,jw,fun i hn tW=>by rw[er,if_neg (by omega),if_neg (fun e=>by subst e;rw[hm] at tW;cases tW)]⟩
  ·intro i b h;rw[jh m _ _ (by have:=(al.fa _ _ h).2;omega)];exact h
  ·intro i b h;by_cases hi:i=I.next
   ·subst hi;rw[hB] at h;cases h;exact .inr ⟨o _,.inr ⟨id,hf,hm,ar⟩⟩
   ·rw[jh m _ _ hi] at h;exact .inl h
  ·intro b n hb;by_cases he:b=ax
   ·subst he;exact gT n hb
   ·unfold dU at hb ⊢;rw[xc b he];exact hb
  ·intro b hb db;refine xc b fun he=>db ?_;subst he;exact⟨id,hf,hm,ar⟩
  ·intro i FD hn;rw[er,if_neg (by omega),if_neg (by omega)]
  ·intro i hn h;rcases(hC i).1 h with h|h
   ·omega
   ·exact h.2
 refine⟨⟨trivial,?_,?_,?_,?_,by have:=al.cE;omega⟩,dx⟩
 ·intro i b h;by_cases hi:i=I.next
  ·subst hi;rw[hB] at h;cases h;exact⟨by omega,qc _⟩
  ·rw[jh m _ _ hi] at h;have:=al.fa _ _ h;exact⟨by omega,zA this.2⟩
 ·intro i b fc h hg au;rw[er] at hg;by_cases hi:i=I.next
  ·subst hi;rw[hB] at h;cases h;rw[if_pos rfl] at hg;cases hg;obtain⟨kZ,h1,h2⟩:=lS;exact⟨kZ,h1,h2.mono dx.mono dx.size dx.fJ (dx.rf al)⟩
  ·rw[jh m _ _ hi] at h;rw[if_neg hi] at hg;by_cases he:i=id
   ·rw[if_pos he] at hg;cases hg;cases au
   ·rw[if_neg he] at hg;obtain⟨kZ,h1,h2⟩:=al.obj i b fc h hg au;have bx:b≠ax:=fun e=>he (al.inj i id ax (e▸h) hm ⟨fc,hg,au⟩ ar);exact⟨kZ,by rw[xc b bx];exact h1,h2.mono dx.mono dx.size dx.fJ (dx.rf al)⟩
 ·intro i eC b h h' a cd;by_cases hi:i=I.next
  ·by_cases cS:eC=I.next
   ·rw[hi,cS]
   ·subst hi;rw[hB] at h;cases h;rw[jh m _ _ cS] at h';have h3:=((hC eC).1 cd).resolve_left cS;exact absurd (al.inj eC id ax h' hm h3.2 ar) h3.1
  ·rw[jh m _ _ hi] at h;have h2:=((hC i).1 a).resolve_left hi;by_cases cS:eC=I.next
   ·subst cS;rw[hB] at h';cases h';exact absurd (al.inj i id ax h hm h2.2 ar) h2.1
   ·rw[jh m _ _ cS] at h';exact al.inj i eC b h h' h2.2 (((hC eC).1 cd).resolve_left cS).2
 ·intro i b h;by_cases hi:i=I.next
  ·subst hi;rw[hB] at h;cases h;exact al.base _ _ hm
  ·rw[jh m _ _ hi] at h;exact al.base _ _ h
end
theorem BR(s:ByteArray):strOf (lj s)=s:=by
 unfold strOf lj;have:(s.data.toList.map (·.toNat)).map Nat.toUInt8=s.data.toList:=by
  rw[eK];conv=>rhs;rw[←B_ s.data.toList]
  apply gl;intro c _;simp
 rw[this]
theorem BS(s:ByteArray):∀c∈lj s,c<256:=by
 intro c ah;simp only[lj,bQ] at ah;obtain⟨x,_,rfl⟩:=ah;exact x.toNat_lt
theorem xd{α β:Type}{f:α→Option β}:∀ {l:List α} {aO:List β},mapOL f l=some aO→aO.length=l.length∧∀i (h:i<l.length) (h':i<aO.length),f (l[i])=some (aO[i])
 |[],aO,h=>by simp[mapOL] at h;subst h;simp
 |x::xs,aO,h=>by
  rw[mapOL] at h;split at h
  ·rename_i y gE hx dj;cases h;obtain⟨h1,h2⟩:=xd dj;refine⟨by simp[h1],fun i hi cS=>?_⟩;cases i with
   |zero=>simpa using hx
   |succ i=>simpa using h2 i (by simpa using hi) (by simpa using cS)
  ·cases h
section
variable {P:Program}{w:World}{m:Nat→Option Nat}{O:Nat→Prop}{B:Nat}
theorem Ko{v:Value}{x:AV}(h:ofLeaf v=some x):conf none x=true:=by
 unfold Lyc.ofLeaf at h;split at h<;>cases h<;>rfl
theorem R.ofLeaf{v:Value}{x:AV}(h:ofLeaf v=some x):R w m O B x v:=by
 unfold Lyc.ofLeaf at h;split at h<;>cases h
 ·exact .b _
 ·exact .i _ _
 ·rename_i s;have:=R.s (w:=w) (m:=m) (O:=O) (B:=B) (lj s) (BS s);rwa[BR] at this
 ·exact .qk
 ·exact .aB
 ·exact .rb
 ·exact .iP
 ·exact .fz
theorem R.ofValue{v:Value}{x:AV}(h:ofValue v=some x):R w m O B x v:=by
 unfold Lyc.ofValue at h;split at h
 ·split at h
  ·rename_i l fX hx;cases h;obtain⟨h1,h2⟩:=xd hx;refine .ag (by rw[←qd];exact h1.symm) (fun i hi cS=>?_) (fun x hx=>?_)
   ·have:=h2 i (by rw[qd];exact cS) hi;exact R.ofLeaf (by simpa using this)
   ·obtain⟨i,hi,rfl⟩:=gm hx;exact Ko (h2 i (by omega) hi)
  ·cases h
 ·split at h
  ·rename_i hx;cases h;exact .it (R.ofLeaf hx)
  ·cases h
 ·exact R.ofLeaf h
theorem bz.get{l:List AV}{a3:List Value}(h:bz w m O B l a3){i:Nat}{v:AV}(av:l[i]? =some v):∃u,a3[i]? =some u∧R w m O B v u:=by
 obtain⟨hi,rfl⟩:=ki.1 av;have cS:i<a3.length:=by rw[h.1];exact hi
 exact⟨a3[i],a9 cS,h.2 i hi cS⟩
theorem bz.nil:bz w m O B [] []:=⟨rfl,fun i h=>by simp at h⟩
theorem bz.cons{x:AV}{u:Value}{l:List AV}{a3:List Value}(h:R w m O B x u)(ar:bz w m O B l a3):bz w m O B (x::l) (u::a3):=
 ⟨by simp[ar.1],fun i h1 h2=>by
  cases i with
  |zero=>exact h
  |succ i=>exact ar.2 i (by simpa using h1) (by simpa using h2)⟩
theorem bz.append{l cF:List AV}{a3 sy:List Value}(h:bz w m O B l a3)(h':bz w m O B cF sy):bz w m O B (l++cF) (a3++sy):=by
 refine⟨by simp[h.1,h'.1],fun i h1 h2=>?_⟩;by_cases hi:i<l.length
 ·rw[jn hi,jn (by rw[h.1];exact hi)];exact h.2 i hi _
 ·rw[jG (by omega),jG (by rw[h.1];omega)];have:i-a3.length=i-l.length:=by rw[h.1]
  simp only[this];exact h'.2 _ _ (by have:=h'.1;have:=h.1;simp at h1 h2;omega)
theorem bz.drop{l:List AV}{a3:List Value}(h:bz w m O B l a3)(k:Nat):bz w m O B (l.drop k) (a3.drop k):=
 ⟨by simp[h.1],fun i h1 h2=>by rw[I0,I0];exact h.2 _ (by simp at h1;omega) (by simp at h2;omega)⟩
theorem bz.take{l:List AV}{a3:List Value}(h:bz w m O B l a3)(k:Nat):bz w m O B (l.take k) (a3.take k):=
 ⟨by simp[h.1],fun i h1 h2=>by rw[C0,C0];exact h.2 _ (by simp at h1;omega) (by simp at h2;omega)⟩
theorem R.xe{l:List AV}{a3:List Value}(h:bz w m O B l a3)(hf:∀x∈l,conf none x=true):R w m O B (.ag l) (.agg a3.toArray):=
 .ag (by simp[h.1]) (fun i h1 h2=>by simpa using h.2 i h1 (by simpa using h2)) hf
theorem R.ql{l:List AV}{u:Value}(h:R w m O B (.ag l) u):∃a3:Array Value,u= .agg a3∧bz w m O B l a3.toList∧∀x∈l,conf none x=true:=by
 cases h with
 |ag aj al hf=>exact⟨_,rfl,⟨by simpa using aj,fun i h1 h2=>by simpa using al i h1 (by simpa using h2)⟩,hf⟩
theorem R.Kp{l:List AV}{u:Value}(h:R w m O B (.bJ l) u):∃a3:Array Value,u= .tuple a3∧bz w m O B l a3.toList:=by
 cases h with
 |bJ aj al=>exact⟨_,rfl,by simpa using aj,fun i h1 h2=>by simpa using al i h1 (by simpa using h2)⟩
theorem R.tX{l:List AV}{a3:List Value}(h:bz w m O B l a3):R w m O B (.bJ l) (.tuple a3.toArray):=
 .bJ (by simp[h.1]) (fun i h1 h2=>by simpa using h.2 i h1 (by simpa using h2))
theorem R.undef:R w m O B dR undef:=.bJ rfl (fun i h=>by simp at h)
theorem R.cells{v:AV}{u:Value}(h:R w m O B v u):bz w m O B v.cells u.cells.toList:=by
 have h0:=h;cases h with
 |ag aj al hf=>obtain⟨a3,hu,ar,_⟩:=R.ql h0;cases hu;exact ar
 |y h=>rcases h.alt with⟨_,_,rfl⟩|⟨_,rfl⟩<;>exact bz.cons h0 bz.nil
 |g1 hu h=>subst hu;exact bz.cons h0 bz.nil
 |_=>exact bz.cons h0 bz.nil
theorem R.FE{v:AV}{u:Value}{ad:Option Nat}(h:R w m O B v u)(ah:conf ad v=true):∀x∈v.cells,conf none x=true:=by
 cases h with
 |ag aj al hf=>exact hf
 |bJ aj al=>cases ad<;>simp[conf] at ah
 |_=>intro x hx;simp only[AV.cells,d_] at hx;subst hx;rfl
theorem R.Kq{v:AV}{u:Value}(h:R w m O B v u)(av:conf none v=true):u.oneCell'=true:=by
 cases h with
 |y h=>rcases h.alt with⟨_,_,rfl⟩|⟨_,rfl⟩<;>rfl
 |g1 hu h=>subst hu;rfl
 |_=>first|rfl|(simp[conf] at av)
theorem km{t:TypeId}{ad:Option Nat}(h:shapeOf P t=some ad)(w:World):
  (isAgg t).run P w= .ok ad.isSome w∧(sizeOf t).run P w= .ok (shN ad) w∧∃i,P.info? t=some i∧i.size=shN ad:=by
 unfold shapeOf at h;split at h<;>try (cases h;done)
 ·rename_i fs i hu hi;cases h;exact⟨by simp[isAgg,run_underlying hu],by simp[sizeOf,typeInfo,hi,shN],i,hi,rfl⟩
 ·rename_i n e i hu hi;cases h;exact⟨by simp[isAgg,run_underlying hu],by simp[sizeOf,typeInfo,hi,shN],i,hi,rfl⟩
 ·rename_i d i h1 h2 hu hi;split at h
  ·rename_i aj;cases h;refine⟨?_,by simp[sizeOf,typeInfo,hi,shN,aj],i,hi,by simp[shN,aj]⟩;simp only[isAgg,dZ,run_underlying hu,ec];cases d<;>first|rfl|(exfalso;first|exact h1 _ rfl|exact h2 _ _ rfl)
  ·cases h
theorem h5(b J k:Nat):(⟨b,J,none⟩:Addr).add k=⟨b,J+k,none⟩:=by
 unfold Addr.add;split
 ·rename_i h;subst h;rfl
 ·rfl
theorem BT{c:List AV}{v:AV}(h:fI none c=some v):∃r,c=v::r:=by
 cases c with
 |nil=>simp[fI] at h
 |cons x r=>simp[fI] at h;subst h;exact⟨r,rfl⟩
theorem BU{n:Nat}{c:List AV}{v:AV}(h:fI (some n) c=some v):v= .ag (c.take n)∧n≤c.length:=by
 simp only[fI] at h;split at h
 ·rename_i ar;cases h;refine⟨rfl,?_⟩;rw[eL] at ar;omega
 ·cases h
theorem QQ{t:TypeId}{ad:Option Nat}(cL:shapeOf P t=some ad){b off:Nat}{a3:List Value}{c:List AV}(ah:bz w m O B c a3)
  (hw:∀j,j<a3.length→w.cell? ⟨b,off+j,none⟩=a3[j]?) {v:AV} (av:fI ad c=some v) (hf:∀x∈c,conf none x=true):
  ∃u,(loadVar t ⟨b,off,none⟩).run P w= .ok u w∧R w m O B v u:=by
 obtain⟨h1,h2,_⟩:=km cL w;cases ad with
 |none=>
  obtain⟨r,rfl⟩:=BT av;obtain⟨u,hu,al⟩:=ah.get (i:=0) (v:=v) rfl;have:=hw 0 (by rw[ah.1];simp);rw[ti,hu] at this;exact⟨u,by simp[loadVar,h1,this],al⟩
 |some n=>
  obtain⟨rfl,hn⟩:=BU av;have hlen:(a3.take n).length=n:=by rw[eL,ah.1];omega
  have ar:=run_loadCells_list (P:=P) w ⟨b,off,none⟩ (a3.take n) (fun j x hx=>by
   rw[h5];obtain⟨az,gp⟩:=ki.1 hx;rw[hw j (by rw[eL] at az;omega)];rw[C0] at gp;rw[←gp];exact a9 _)
  rw[hlen] at ar;refine⟨.agg (a3.take n).toArray,by simp[loadVar,h1,h2,shN,ar],R.xe (ah.take n) (fun x hx=>hf x (oy hx))⟩
end
section
variable {P:Program}{I:af}{w:World}{m:Nat→Option Nat}{B:Nat}
theorem Rel.cells(al:Rel P I w m B){id ax:Nat}{c:List AV}(hm:m id=some ax)(hg:I.get id=some (.cells c)):
  ∃arr el aV,w.heap[ax]? =some (.cells arr el aV)∧bz w m (a_ I m) B c (arr.toList.take c.length)∧c.length≤arr.size∧(∀i,i<arr.size→(decide (aV.1≤i)&&decide (i<aV.2))=false)∧∀x∈c,conf none x=true:=by
 obtain⟨b7,h1,h2⟩:=al.obj id ax _ hm hg rfl;cases h2 with
 | @cells _ arr el aV ar jx bg hf=>
  refine⟨arr,el,aV,h1,⟨by simp;omega,fun i h3 aE=>?_⟩,ar,bg,hf⟩;simpa using jx i h3 (by omega)
theorem xf{b:Nat}{arr:Array Value}{el:TypeId}{aV:Nat×Nat}(h:w.heap[b]? =some (.cells arr el aV))(i:Nat):w.cell? ⟨b,i,none⟩=arr[i]? :=by
 simp[World.cell?,h]
theorem FF{b:Nat}{arr:Array Value}{el:TypeId}{aV:Nat×Nat}(h:w.heap[b]? =some (.cells arr el aV))(i:Nat):w.frozen? ⟨b,i,none⟩=(decide (aV.1≤i)&&decide (i<aV.2)):=by
 simp[World.frozen?,h]
theorem QR(al:Rel P I w m B){t:TypeId}{ad:Option Nat}(cL:shapeOf P t=some ad){id off ax:Nat}{c:List AV}{v:AV}(hm:m id=some ax)(hg:I.get id=some (.cells c))(av:fI ad (c.drop off)=some v):
  ∃u,(loadVar t ⟨ax,off,none⟩).run P w= .ok u w∧R w m (a_ I m) B v u:=by
 obtain⟨arr,el,aV,h1,h2,h3,_,hf⟩:=al.cells hm hg;refine QQ cL (h2.drop off) (fun j az=>?_) av (fun x hx=>hf x (mw hx));rw[xf h1];simp only[ng,eL,qd] at az;rw[lL,qe (by omega)];simp
theorem a1U{O:Nat→Prop}{t:TypeId}{ad:Option Nat}(cL:shapeOf P t=some ad){old:Bool}{v:AV}{u:Value}(h:R w m O B (.cZ old v) u)(av:conf ad v=true):
  ∃a bR,u= .pointer (some a)∧(loadVar t a).run P w= .ok bR w∧R w m O B v bR:=by
 cases h with
 | @cZ _ _ _ _ _ ax off aO db hb c4 ah jx hf=>
  have ar:bz w m O B v.cells ((List.range v.cells.length).map aO):=⟨by simp,fun i h1 h2=>by simpa using (jx i h1).up⟩
  have ht:fI ad v.cells=some v:=by
   cases ad with
   |none=>cases v<;>first|rfl|(simp[conf] at av)
   |some n=>
    cases v<;>simp[conf] at av;rename_i l;subst av;simp[fI,AV.cells]
  obtain⟨bR,h1,h2⟩:=QQ (t:=t) cL (b:=ax) (off:=off) ar (fun j az=>by
   simp only[aJ,oz] at az;rw[ah j az];simp[az]) ht hf
  exact⟨_,bR,rfl,h1,h2⟩
theorem xg{c aQ:List AV}{off:Nat}{v:List AV}(h:storeCells c off v=some aQ):off+v.length≤c.length∧aQ=c.take off++(v++c.drop (off+v.length)):=by
 unfold Lyc.storeCells at h;split at h
 ·rename_i hb;cases h;exact⟨eV hb,rfl⟩
 ·cases h
theorem Kr(al:Rel P I w m B){f id off ax:Nat}{c aQ:List AV}{a3:List AV}{us:List Value}(hf:f≤id)(hm:m id=some ax)(hg:I.get id=some (.cells c))
  (aj:Lyc.storeCells c off a3=some aQ) (kG:bz w m (a_ I m) B a3 us) (ri:∀x∈a3,conf none x=true):
  ∃an,(Go.storeCells ⟨ax,off,none⟩ us).run P w= .ok () an∧Rel P (I.set id (.cells aQ)) an m B∧Ext f I w m (I.set id (.cells aQ)) an m:=by
 obtain⟨hle,rfl⟩:=xg aj;obtain⟨arr,el,aV,hh,ah,oK,bg,j4⟩:=al.cells hm hg;have hlen:us.length=a3.length:=kG.1;have h1:∀u∈us,u.oneCell'=true:=fun u hu=>by
  obtain⟨i,hi,rfl⟩:=gm hu;exact(kG.2 i (by omega) hi).Kq (ri _ (aS _))
 have b8:=run_storeCells_cells (P:=P) ax off us 0 w
  (fun j az=>by rw[xf hh,nN (by omega)];rfl)
  (fun j az=>by rw[FF hh];exact bg _ (by omega)) h1
 obtain⟨r1,r2,nU,tY⟩:=FC us w ax (off+0);have sA:=FB us w ax (off+0) arr el aV hh;refine⟨_,b8,al.fq hf hm ⟨_,hg,rfl⟩ _ (.cells _) r1 (fun b hb=>heap_setCells_other us w ax _ b hb) ?_ r2 nU tY (fun _=>⟨_,sA,?_⟩)⟩
 ·intro n hn;unfold dU at hn ⊢;rw[hh] at hn;rw[sA];simpa [sx] using hn
 ·have er:∀i,(wr arr (off+0) us)[i]? =if off≤i∧i<off+us.length then us[i-off]? else arr[i]? :=fun i=>by
   have:=zl us arr (off+0) i (by omega);simpa using this
  have nm:(c.take off++(a3++c.drop (off+a3.length))).length=c.length:=by simp;omega
  refine .cells (by rw[sx,nm];exact oK) (fun i h h'=>?_) (by rw[sx];exact bg) (fun x hx=>by
    rcases dE.1 hx with hx|hx
    ·exact j4 x (oy hx)
    ·rcases dE.1 hx with hx|hx
     ·exact ri x hx
     ·exact j4 x (mw hx))
  rw[nm] at h;have hi:=er i;rw[nN h'] at hi;have hL:(c.take off++(a3++c.drop (off+a3.length)))[i]? =if off≤i∧i<off+us.length then a3[i-off]? else c[i]? :=by
   rw[vC];simp only[eL];by_cases ba:i<off
   ·rw[if_pos (by omega),if_neg (by omega),qe ba]
   ·rw[if_neg (by omega),vC];by_cases cr:i-min off c.length<a3.length
    ·rw[if_pos cr,if_pos (by omega),show min off c.length=off by omega]
    ·rw[if_neg cr,if_neg (by omega),lL]
     congr 1;omega
  have oL:(c.take off++(a3++c.drop (off+a3.length)))[i]? =some ((c.take off++(a3++c.drop (off+a3.length)))[i]'(by rw[nm];exact h)):=a9 _;rw[hL] at oL;by_cases de:off≤i∧i<off+us.length
  ·rw[if_pos de] at oL hi;obtain⟨u,hu,ic⟩:=kG.get oL;rw[hu] at hi;cases hi;exact ic
  ·rw[if_neg de] at oL hi;obtain⟨u,hu,ic⟩:=ah.get oL;rw[qe h] at hu;have:arr[i]? =some u:=by simpa using hu
   rw[this] at hi;cases hi;exact ic
theorem Rel.eT(al:Rel P I w m B){id ax r:Nat}{c:List AV}(hm:m id=some ax)(hg:I.get id=some (.eT c r)):
  ∃arr el aV,w.heap[ax]? =some (.cells arr el aV)∧bz w m (a_ I m) B c (arr.toList.take c.length)∧c.length+r≤arr.size∧(∀i,i<arr.size→(decide (aV.1≤i)&&decide (i<aV.2))=false)∧∀x∈c,conf none x=true:=by
 obtain⟨b7,h1,h2⟩:=al.obj id ax _ hm hg rfl;cases h2 with
 | @eT _ _ arr el aV ar jx bg hf=>
  refine⟨arr,el,aV,h1,⟨by simp;omega,fun i h3 aE=>?_⟩,ar,bg,hf⟩;simpa using jx i h3 (by omega)
theorem a1V{O:Nat→Prop}{c aQ:List AV}{off:Nat}{a3:List AV}{us:List Value}{arr:Array Value}(ah:bz w m O B c (arr.toList.take c.length))(oK:c.length≤arr.size)(aj:Lyc.storeCells c off a3=some aQ)(kG:bz w m O B a3 us):
  aQ.length=c.length∧∀i (h:i<aQ.length) (h':i<(wr arr (off+0) us).size),R w m O B (aQ[i]) ((wr arr (off+0) us)[i]):=by
 obtain⟨hle,rfl⟩:=xg aj;have hlen:us.length=a3.length:=kG.1;have er:∀i,(wr arr (off+0) us)[i]? =if off≤i∧i<off+us.length then us[i-off]? else arr[i]? :=fun i=>by
  have:=zl us arr (off+0) i (by omega);simpa using this
 have nm:(c.take off++(a3++c.drop (off+a3.length))).length=c.length:=by simp;omega
 refine⟨nm,fun i h h'=>?_⟩;rw[nm] at h;have hi:=er i;rw[nN h'] at hi;have hL:(c.take off++(a3++c.drop (off+a3.length)))[i]? =if off≤i∧i<off+us.length then a3[i-off]? else c[i]? :=by
  rw[vC];simp only[eL];by_cases ba:i<off
  ·rw[if_pos (by omega),if_neg (by omega),qe ba]
  ·rw[if_neg (by omega),vC];by_cases cr:i-min off c.length<a3.length
   ·rw[if_pos cr,if_pos (by omega),show min off c.length=off by omega]
   ·rw[if_neg cr,if_neg (by omega),lL]
    congr 1;omega
 have oL:(c.take off++(a3++c.drop (off+a3.length)))[i]? =some ((c.take off++(a3++c.drop (off+a3.length)))[i]'(by rw[nm];exact h)):=a9 _;rw[hL] at oL;by_cases de:off≤i∧i<off+us.length
 ·rw[if_pos de] at oL hi;obtain⟨u,hu,ic⟩:=kG.get oL;rw[hu] at hi;cases hi;exact ic
 ·rw[if_neg de] at oL hi;obtain⟨u,hu,ic⟩:=ah.get oL;rw[qe h] at hu;have:arr[i]? =some u:=by simpa using hu
  rw[this] at hi;cases hi;exact ic
theorem a1W(al:Rel P I w m B){f id off ax r:Nat}{c aQ:List AV}{a3:List AV}{us:List Value}(hf:f≤id)(hm:m id=some ax)(hg:I.get id=some (.eT c r))
  (aj:(cond (Nat.ble c.length off&&Nat.ble (off+a3.length) (c.length+r)) (some c) (Lyc.storeCells c off a3))=some aQ) (kG:bz w m (a_ I m) B a3 us) (ri:∀x∈a3,conf none x=true):
  ∃an,(Go.storeCells ⟨ax,off,none⟩ us).run P w= .ok () an∧Rel P (I.set id (.eT aQ r)) an m B∧Ext f I w m (I.set id (.eT aQ r)) an m:=by
 obtain⟨arr,el,aV,hh,ah,oK,bg,j4⟩:=al.eT hm hg;have hlen:us.length=a3.length:=kG.1;have key:off+a3.length≤arr.size∧aQ.length=c.length∧(∀x∈aQ,conf none x=true)∧∀i (h:i<aQ.length) (h':i<(wr arr (off+0) us).size),R w m (a_ I m) B (aQ[i]) ((wr arr (off+0) us)[i]):=by
  cases hq:(Nat.ble c.length off&&Nat.ble (off+a3.length) (c.length+r)) with
  |true=>
   rw[hq,cond_true] at aj;cases aj;simp only[cx] at hq;have iS:=eV hq.1;have iT:=eV hq.2;refine⟨by omega,rfl,j4,fun i h h'=>?_⟩;have hi:=zl us arr (off+0) i (by omega);rw[nN h',if_neg (by omega)] at hi;obtain⟨u,hu,ic⟩:=ah.get (a9 h);rw[qe h] at hu;have:arr[i]? =some u:=by simpa using hu
   rw[this] at hi;cases hi;exact ic
  |false=>
   rw[hq,cond_false] at aj;obtain⟨h1,h2⟩:=a1V ah (by omega) aj kG;obtain⟨hle,rfl⟩:=xg aj;refine⟨by omega,h1,fun x hx=>?_,h2⟩;rcases dE.1 hx with hx|hx
   ·exact j4 x (oy hx)
   ·rcases dE.1 hx with hx|hx
    ·exact ri x hx
    ·exact j4 x (mw hx)
 obtain⟨hle,eZ,a1X,bD⟩:=key;have h1:∀u∈us,u.oneCell'=true:=fun u hu=>by
  obtain⟨i,hi,rfl⟩:=gm hu;exact(kG.2 i (by omega) hi).Kq (ri _ (aS _))
 have b8:=run_storeCells_cells (P:=P) ax off us 0 w
  (fun j az=>by rw[xf hh,nN (by omega)];rfl)
  (fun j az=>by rw[FF hh];exact bg _ (by omega)) h1
 obtain⟨r1,r2,nU,tY⟩:=FC us w ax (off+0);have sA:=FB us w ax (off+0) arr el aV hh;refine⟨_,b8,al.fq hf hm ⟨_,hg,rfl⟩ _ (.eT _ _) r1 (fun b hb=>heap_setCells_other us w ax _ b hb) ?_ r2 nU tY (fun _=>⟨_,sA,?_⟩)⟩
 ·intro n hn;unfold dU at hn ⊢;rw[hh] at hn;rw[sA];simpa [sx] using hn
 ·exact .eT (by rw[sx,eZ];exact oK) bD (by rw[sx];exact bg) a1X
end
def fr(P:Program)(B f:Nat)(I:af)(w:World)(m:Nat→Option Nat)(v:AV)(aq:af)(r:Result Next):Prop:=
 ∃u an aH,(r= .ok (.value u) an∨(r= .ok .skip an∧u=undef))∧R an aH (a_ aq aH) B v u∧Rel P aq an aH B∧Ext f I w m aq an aH
section
variable {P:Program}{I:af}{w:World}{m:Nat→Option Nat}{B:Nat}{f:Nat}
theorem fr.pure{v:AV}{u:Value}{r:Result Next}(al:Rel P I w m B)(h:r= .ok (.value u) w)(av:R w m (a_ I m) B v u):fr P B f I w m v I r:=
 ⟨u,w,m,.inl h,av,al,Ext.refl _ _ _ _⟩
def Globs(env:Env)(w:World)(B:Nat):Prop:=
 ∀g v,env.pd g=some v→∀gn,R w (fun _=>none) (fun b=>B≤b) gn (.cZ true v) (.pointer (some ⟨g,0,none⟩))
theorem Globs.get{env:Env}{O:Nat→Prop}(h:Globs env w B)(db:∀b,O b→B≤b){g:Nat}{v:AV}(hg:env.pd g=some v):R w m O B (.cZ true v) (.pointer (some ⟨g,0,none⟩)):=
 (h g v hg B).mono (fun _ _ h=>by cases h) (o _) (fun _ _ h=>h) (fun b _ hb=>⟨rfl,fun ab=>hb (db b ab)⟩)
theorem Ks{env:Env}{O:Nat→Prop}(db:∀b,O b→B≤b)(gF:Globs env w B){ak:aT AV}{a:Act}(aj:jf w m O B ak a.tmps.toList){x:Operand}{bA:aC}(hx:opdOf x=some bA){v:AV}(av:evalA env ak bA=some v):
  R w m O B v (a.eval x):=by
 cases x with
 |tmp t=>
  cases hx;obtain⟨u,hu,al⟩:=aj.1 t v av;have:a.eval (.tmp t)=u:=by
   simp only[Act.eval];rw[lM] at hu;simp[hu]
  rw[this];exact al
 |const c=>
  simp only[opdOf] at hx;split at hx<;>cases hx;rename_i a2 ah;simp only[evalA,a6] at av;subst av;exact R.ofValue ah
 |func g=>
  cases hx;simp only[evalA,a6] at av;subst av;exact .oI rfl (fun i h=>by simp at h) rfl (fun i h=>by simp at h)
 |_=>
  cases hx;simp only[evalA] at av;split at av<;>cases av;rename_i a2 hg;exact gF.get db hg
theorem BV{env:Env}{O:Nat→Prop}(db:∀b,O b→B≤b)(gF:Globs env w B){ak:aT AV}{a:Act}(aj:jf w m O B ak a.tmps.toList){xs:List Operand}{bA:List aC}(hx:xa xs=some bA){a3:List AV}(av:mapO (evalA env ak) bA=some a3):
  bz w m O B a3 (xs.map a.eval):=by
 obtain⟨h1,h2⟩:=xd hx;obtain⟨h3,aE⟩:=mc av;refine⟨by simp[h1,h3],fun i hi cS=>?_⟩;simp only[fQ];have kH:i<bA.length:=by omega
 have a1Y:i<xs.length:=by omega
 exact Ks db gF aj (h2 i a1Y kH) (aE i kH hi)
theorem a1Z(al:Rel P I w m B){t:TypeId}{ad:Option Nat}(cL:shapeOf P t=some ad){xh v:AV}{u:Value}(hp:R w m (a_ I m) B xh u)
  (h:nS I ad xh=some v):∃bR,(Instr.loadAt t u).run P w= .ok bR w∧R w m (a_ I m) B v bR:=by
 unfold nS at h;cases hp with
 | @p _ _ _ id ax off hm=>
  simp only at h;cases hg:I.get id with
  |none=>simp[hg] at h
  |some J=>
   cases J<;>simp only[hg] at h<;>try (cases h;done)
   obtain⟨bR,h1,h2⟩:=QR al cL hm hg h;exact⟨bR,by simp[Instr.loadAt,Instr.sureAddr,h1],h2⟩
 |cZ aO db hb c4 ah jx hf=>
  simp only at h;split at h
  ·rename_i av;cases h;obtain⟨a,bR,ha,h1,h2⟩:=a1U (O:=a_ I m) cL (.cZ aO db hb c4 ah jx hf) av;cases ha;exact⟨bR,by simp[Instr.loadAt,Instr.sureAddr,h1],h2⟩
  ·cases h
 |_=>simp at h
theorem QS{ad:Option Nat}{v:AV}{u:Value}{O:Nat→Prop}(av:R w m O B v u)(ah:conf ad v=true):u.cells.size=shN ad∧v.cells.length=shN ad:=by
 have h:=av.cells.1;cases ad with
 |none=>cases v<;>simp[conf,AV.cells,shN] at ah h ⊢ <;>exact h
 |some n=>cases v<;>simp[conf,AV.cells,shN] at ah h ⊢;omega
theorem a2a(al:Rel P I w m B){t:TypeId}{ad:Option Nat}(cL:shapeOf P t=some ad){id off ax:Nat}{c aQ:List AV}{x:AV}{u:Value}(hf:f≤id)(hm:m id=some ax)(hg:I.get id=some (.cells c))(ah:conf ad x=true)
  (aj:Lyc.storeCells c off x.cells=some aQ) (hx:R w m (a_ I m) B x u):
  ∃an,(Instr.storeAt t (.pointer (some ⟨ax,off,none⟩)) u).run P w= .ok () an∧Rel P (I.set id (.cells aQ)) an m B∧Ext f I w m (I.set id (.cells aQ)) an m:=by
 obtain⟨an,h2,h3,aE⟩:=Kr al hf hm hg aj hx.cells (hx.FE ah);obtain⟨_,bV,_⟩:=km cL w;refine⟨an,?_,h3,aE⟩;simp only[Instr.storeAt,Instr.sureAddr,dZ,gx,ec,storeVar,bV,(QS hx ah).1,ne_eq,not_true_eq_false,if_false];exact h2
theorem a2b(al:Rel P I w m B){t:TypeId}{ad:Option Nat}(cL:shapeOf P t=some ad){id off ax r:Nat}{c aQ:List AV}{x:AV}{u:Value}(hf:f≤id)(hm:m id=some ax)(hg:I.get id=some (.eT c r))(ah:conf ad x=true)
  (aj:(cond (Nat.ble c.length off&&Nat.ble (off+x.cells.length) (c.length+r)) (some c) (Lyc.storeCells c off x.cells))=some aQ) (hx:R w m (a_ I m) B x u):
  ∃an,(Instr.storeAt t (.pointer (some ⟨ax,off,none⟩)) u).run P w= .ok () an∧Rel P (I.set id (.eT aQ r)) an m B∧Ext f I w m (I.set id (.eT aQ r)) an m:=by
 obtain⟨an,h2,h3,aE⟩:=a1W al hf hm hg aj hx.cells (hx.FE ah);obtain⟨_,bV,_⟩:=km cL w;refine⟨an,?_,h3,aE⟩;simp only[Instr.storeAt,Instr.sureAddr,dZ,gx,ec,storeVar,bV,(QS hx ah).1,ne_eq,not_true_eq_false,if_false];exact h2
theorem FG(al:Rel P I w m B)(f:Nat){el:TypeId}{c:List AV}{cs:Array Value}(ah:bz w m (a_ I m) B c cs.toList)(hf:∀x∈c,conf none x=true):
  ∃an aH,(newRow el cs).run P w= .ok ⟨w.heap.size,0,none⟩ an∧aH I.next=some w.heap.size∧an.heap[w.heap.size]? =some (.cells cs el (0,0))∧Rel P (I.push (.cells c)) an aH B∧Ext f I w m (I.push (.cells c)) an aH:=by
 obtain⟨h1,h2⟩:=al.alloc f {w with heap:=w.heap.push (.cells cs el)} (.cells c) (.cells cs el) rfl rfl rfl rfl rfl
  (.cells (by have:=ah.1;simp at this;omega) (fun i h h'=>by have:=ah.2 i h (by simpa using h');simpa using this) (fun i _=>by simp) hf)
 exact⟨_,_,by simp[newRow],hB _ _ _,by simp,h1,h2⟩
theorem a2c(al:Rel P I w m B){el:TypeId}{x:AV}{u:Value}(hx:R w m (a_ I m) B x u)(hf:∀y∈x.cells,conf none y=true):
  ∃bR an aH,(Instr.box el u).run P w= .ok bR an∧R an aH (a_ (I.push (.cells x.cells)) aH) B (kY I.next 0) bR∧Rel P (I.push (.cells x.cells)) an aH B∧Ext f I w m (I.push (.cells x.cells)) an aH:=by
 obtain⟨an,aH,h1,h2,_,h3,aE⟩:=FG al f (el:=el) hx.cells hf;exact⟨_,an,aH,by simp[Instr.box,newVar,h1],.p h2,h3,aE⟩
theorem a2d{v:Value}{x:AV}(h:ofValue v=some x):∀y∈x.cells,conf none y=true:=by
 unfold Lyc.ofValue at h;split at h
 ·split at h
  ·rename_i l fX hx;cases h;intro y aw;obtain⟨i,hi,rfl⟩:=gm aw;exact Ko ((xd hx).2 i (by have:=(xd hx).1;simp only[AV.cells] at hi;omega) hi)
  ·cases h
 ·split at h
  ·cases h;intro y aw;simp only[AV.cells,d_] at aw;subst aw;rfl
  ·cases h
 ·have ah:=Ko h;cases x<;>first|(intro y aw;simp only[AV.cells,d_] at aw;subst aw;exact ah)|(simp[conf] at ah)
theorem rj{t:TypeId}{z:AV}(h:zeroOf P t=some z)(w:World):∃u,(zeroValue t).run P w= .ok u w∧(∀w m O B,R w m O B z u)∧∀y∈z.cells,conf none y=true:=by
 unfold zeroOf at h;split at h<;>try (cases h;done)
 rename_i i hi;split at h<;>try (cases h;done)
 rename_i v av;exact⟨v,by simp[zeroValue,typeInfo,hi,av],fun w m O B=>R.ofValue h,a2d h⟩
theorem a2e(al:Rel P I w m B){t:TypeId}{z:AV}(bg:zeroOf P t=some z):
  ∃bR an aH,(Instr.alloc t true (.tuple #[])).run P w= .ok bR an∧R an aH (a_ (I.push (.cells z.cells)) aH) B (kY I.next 0) bR∧Rel P (I.push (.cells z.cells)) an aH B∧Ext f I w m (I.push (.cells z.cells)) an aH:=by
 obtain⟨u,h1,h2,hf⟩:=rj bg w;obtain⟨an,aH,h3,aE,_,ba,cr⟩:=FG al f (el:=t) (h2 w m (a_ I m) B).cells hf;exact⟨_,an,aH,by simp[Instr.alloc,h1,newVar,h3],.p aE,ba,cr⟩
theorem QT(k:IntKind)(n:Int):wrapN k n=k.wrap n:=by
 unfold wrapN;split
 ·rename_i x;cases h:Nat.blt x 9223372036854775808 with
  |false=>rfl
  |true=>
   have hx:x<9223372036854775808:=by simpa [gg] using h
   show Int.ofNat x=IntKind.i64.wrap (Int.ofNat x);have:(Int.ofNat x:Int)=(x:Int):=rfl;rw[this];have e:(x:Int)%2^64=x:=I1 (by omega) (by omega);simp only[IntKind.wrap,IntKind.bits,IntKind.signed,e];rw[if_neg (by simp;omega)]
 ·rfl
end
section
variable {P:Program}{w:World}{m:Nat→Option Nat}{O:Nat→Prop}{B:Nat}
theorem BW{v:AV}{n:Nat}(h:natOf v=some n):∃k,v= .i k (Int.ofNat n):=by
 unfold natOf at h;split at h<;>cases h;exact⟨_,rfl⟩
theorem QU{a b:Nat}(ha:a<256)(hb:b<256)(h:a.toUInt8=b.toUInt8):a=b:=by
 have:=congrArg UInt8.toNat h;simp at this;omega
theorem QV{a b:Nat}(ha:a<256)(hb:b<256):a.toUInt8<b.toUInt8↔a<b:=by
 rw[NJ];simp;omega
theorem QW(l:List Nat):(strOf l).data.toList=l.map Nat.toUInt8:=by simp[strOf]
theorem zn(l:List Nat):(strOf l).toList=l.map Nat.toUInt8:=by
 rw[Go.ByteArray.toList_eq,QW]
theorem vr(l:List Nat):(strOf l).size=l.length:=by
 show(strOf l).data.size=_;simp[strOf]
theorem pk:∀(x y:List Nat),eqL x y=true↔x=y
 |[],[]=>by simp[eqL]
 |[],_::_=>by simp[eqL]
 |_::_,[]=>by simp[eqL]
 |a::x,b::y=>by
  show(cond (Nat.beq a b) (eqL x y) false)=true↔_;cases h:Nat.beq a b with
  |false=>
   simp only[cond_false,nO,false_iff,pw,not_and];intro e;subst e;simp[fy] at h
  |true=>
   have:a=b:=fm h;subst this;simp[pk x y]
theorem Kt:∀(x y:List Nat),(∀c∈x,c<256)→(∀c∈y,c<256)→x.map Nat.toUInt8=y.map Nat.toUInt8→x=y
 |[],[],_,_,_=>rfl
 |[],_::_,_,_,h=>by simp at h
 |_::_,[],_,_,h=>by simp at h
 |a::x,b::y,hx,aw,h=>by
  simp only[jK,pw] at h;rw[QU (hx a (by simp)) (aw b (by simp)) h.1,Kt x y (fun c ah=>hx c (by simp[ah])) (fun c ah=>aw c (by simp[ah])) h.2]
theorem a2f{x y:List Nat}(hx:∀c∈x,c<256)(aw:∀c∈y,c<256):((strOf x).toList==(strOf y).toList)=eqL x y:=by
 rw[oA,pk,beq_iff_eq,zn,zn];exact⟨Kt x y hx aw,fun h=>by rw[h]⟩
theorem QX:∀(x y:List Nat),(∀c∈x,c<256)→(∀c∈y,c<256)→Op.bytesLess (x.map Nat.toUInt8) (y.map Nat.toUInt8)=iy x y
 |[],[],_,_=>rfl
 |[],_::_,_,_=>rfl
 |_::_,[],_,_=>rfl
 |a::x,b::y,hx,aw=>by
  have ha:=hx a (by simp);have hb:=aw b (by simp);have aA:=QX x y (fun c ah=>hx c (by simp[ah])) (fun c ah=>aw c (by simp[ah]));show(decide (a.toUInt8<b.toUInt8)||(a.toUInt8==b.toUInt8&&Op.bytesLess (x.map Nat.toUInt8) (y.map Nat.toUInt8)))=cond (Nat.blt a b) true (cond (Nat.beq a b) (iy x y) false);rw[aA];by_cases h:a<b
  ·have h1:Nat.blt a b=true:=by simpa [gg] using h
   have h2:=(QV ha hb).2 h;simp[h1,h2]
  ·have h1:Nat.blt a b=false:=by
    cases h3:Nat.blt a b
    ·rfl
    ·exact absurd (by simpa [gg] using h3) h
   have h2:¬a.toUInt8<b.toUInt8:=fun aE=>h ((QV ha hb).1 aE);by_cases he:a=b
   ·subst he;simp[h1]
   ·have aE:Nat.beq a b=false:=by
     cases ba:Nat.beq a b
     ·rfl
     ·exact absurd (fm ba) he
    have ba:¬a.toUInt8=b.toUInt8:=fun cr=>he (QU ha hb cr);simp[h1,h2,aE,ba]
theorem R.pn{l:List Nat}{u:Value}(h:R w m O B (.s l) u):u= .string (strOf l)∧∀c∈l,c<256:=by
 cases h with
 |s _ h=>exact⟨rfl,h⟩
theorem R.ll{k:IntKind}{n:Int}{u:Value}(h:R w m O B (.i k n) u):u= .int k n:=by cases h;rfl
theorem R.vs{x:Bool}{u:Value}(h:R w m O B (.b x) u):u= .bool x:=by cases h;rfl
theorem R.tZ{id off:Nat}{u:Value}(h:R w m O B (.p (some (id,off))) u):∃ax,m id=some ax∧u= .pointer (some ⟨ax,off,none⟩):=by
 cases h with
 |p h=>exact⟨_,h,rfl⟩
theorem R.FH{id:Nat}{u:Value}(h:R w m O B (.m (some id)) u):∃ax,m id=some ax∧u= .map (some ax):=by
 cases h with
 |mp h=>exact⟨_,h,rfl⟩
theorem a2g(x y:List Nat):strOf x++strOf y=strOf (x++y):=by
 apply ByteArray.ext;rw[ByteArray.data_append];simp[strOf]
theorem QY:∀(x y:List Nat),iy y x=false→iy x y=true∨eqL x y=true
 |[],[],_=>.inr rfl
 |[],_::_,_=>.inl rfl
 |_::_,[],h=>by simp[iy] at h
 |a::x,b::y,h=>by
  have h':cond (Nat.blt b a) true (cond (Nat.beq b a) (iy y x) false)=false:=h;show cond (Nat.blt a b) true (cond (Nat.beq a b) (iy x y) false)=true∨cond (Nat.beq a b) (eqL x y) false=true;have a2h:¬b<a:=fun h1=>by
   have:Nat.blt b a=true:=by simpa [gg] using h1
   simp[this] at h'
  have po:Nat.blt b a=false:=by
   cases h3:Nat.blt b a
   ·rfl
   ·exact absurd (by simpa [gg] using h3) a2h
  rw[po] at h';by_cases he:a=b
  ·subst he;simp only[fy,cond_true,cond_false] at h' ⊢;rcases QY x y h' with h1|h1
   ·left;rw[h1];simp
   ·right;exact h1
  ·left;have:Nat.blt a b=true:=by simp[gg];omega
   rw[this];rfl
theorem QZ:∀(x y:List Nat),iy x y=true→iy y x=false∧eqL x y=false
 |[],[],h=>by simp[iy] at h
 |[],_::_,_=>⟨rfl,rfl⟩
 |_::_,[],h=>by simp[iy] at h
 |a::x,b::y,h=>by
  have h':cond (Nat.blt a b) true (cond (Nat.beq a b) (iy x y) false)=true:=h;show cond (Nat.blt b a) true (cond (Nat.beq b a) (iy y x) false)=false∧cond (Nat.beq a b) (eqL x y) false=false;by_cases ar:a<b
  ·have h1:Nat.blt b a=false:=by
    cases h3:Nat.blt b a
    ·rfl
    ·have:b<a:=by simpa [gg] using h3
     omega
   have h2:Nat.beq b a=false:=by
    cases h3:Nat.beq b a
    ·rfl
    ·have:=fm h3;omega
   have aE:Nat.beq a b=false:=by
    cases h3:Nat.beq a b
    ·rfl
    ·have:=fm h3;omega
   simp[h1,h2,aE]
  ·have h1:Nat.blt a b=false:=by
    cases h3:Nat.blt a b
    ·rfl
    ·exact absurd (by simpa [gg] using h3) ar
   rw[h1] at h';cases h2:Nat.beq a b with
   |false=>rw[h2] at h';simp at h'
   |true=>
    rw[h2] at h';have:=fm h2;subst this;simp only[cond_false,cond_true] at h';obtain⟨h3,aE⟩:=QZ x y h';simp[h1,fy,h3,aE]
theorem Q0(a:List Nat):∀(ex:List (List Nat)),qh a ex=true→a∈ex
 |[],h=>by cases h
 |x::ex,h=>by
  have h:cond (eqL a x) true (qh a ex)=true:=h;cases hx:eqL a x with
  |true=>rw[(pk a x).1 hx];exact gz
  |false=>rw[hx] at h;exact e9 _ (Q0 a ex h)
theorem FI{ex:List (List Nat)}{a:List Nat}{u:Value}(h:R w m O B (.gD ex) u)(hm:qh a ex=true):∃s:ByteArray,u= .string s∧s≠strOf a:=by
 cases h with
 |gD h=>exact⟨_,rfl,h a (Q0 a ex hm)⟩
theorem Q1{a b:ByteArray}(h:a≠b):¬a.toList=b.toList:=fun e=>h (by
 rw[NK,NK] at e;cases a;cases b;simp only[ByteArray.mk.injEq];exact lV e)
theorem Q2{a b:ByteArray}(h:a≠b):(a==b)=false:=by
 cases hb:a==b with
 |false=>rfl
 |true=>exact absurd ((NL _ _).1 hb) h
theorem Q3{k:IntKind}(aD:k= .u8∨k= .i64){n:Nat}(h:n<256):k.wrap (Int.ofNat n)=Int.ofNat n:=by
 rcases aD with rfl|rfl
 ·have:(Int.ofNat n)%2^8=Int.ofNat n:=I1 (Dl _) (by show((n:Nat):Int)<2^8;omega);simp only[IntKind.wrap,IntKind.bits,IntKind.signed,this];simp
 ·have:(Int.ofNat n)%2^64=Int.ofNat n:=I1 (Dl _) (by show((n:Nat):Int)<2^64;omega);have h2:¬(2^63:Int)≤(Int.ofNat n):=by show ¬(2^63:Int)≤((n:Nat):Int);omega
  simp only[IntKind.wrap,IntKind.bits,IntKind.signed,this];simp at h2 ⊢;omega
theorem FJ{op:BinOp}{t:TypeId}{x y v:AV}{a b:Value}(ha:R w m O B x a)(hb:R w m O B y b)(h:binop op x y=some v)(BX:∀hi,x≠ .iQ hi)(jy:∀aK hi,x≠ .gv aK hi)(hR:∀aK hi,y≠ .gv aK hi):
  ∃u,(do eqGuard op t (.tmp 0) (.tmp 0) a b;Go.binOp op t a b:Sem Value).run P w= .ok u w∧R w m O B v u∧∀fX g5,(do eqGuard op t fX g5 a b;Go.binOp op t a b:Sem Value)=(do eqGuard op t (.tmp 0) (.tmp 0) a b;Go.binOp op t a b:Sem Value):=by
 unfold binop at h;split at h
 ·rename_i k n l q;obtain rfl:=ha.ll;obtain rfl:=hb.ll;have hg:∀fX g5,eqGuard op t fX g5 (.int k n) (.int l q)=pure ():=fun fX g5=>by unfold eqGuard;cases op<;>rfl
  simp only[hg];refine(fun⟨u,h1,h2⟩=>⟨u,h1,h2,fun _ _=>trivial⟩:(∃u,(do pure ();Go.binOp op t (.int k n) (.int l q):Sem Value).run P w= .ok u w∧R w m O B v u)→_) ?_;split at h
  ·split at h<;>cases h;rename_i hq;exact⟨_,by simp[Go.binOp,Op.shift,hq],.i _ _⟩
  ·split at h<;>cases h;rename_i hq;exact⟨_,by simp[Go.binOp,Op.shift,hq],.i _ _⟩
  ·rename_i h1 h2;split at h
   ·rename_i xi;subst xi;have iU:(n==q)=decide (n=q):=by rw[oA];simp
    have a2i:(n != q)= !decide (n=q):=by rw[oA];simp
    cases op<;>first
     |exact absurd rfl h1
     |exact absurd rfl h2
     |(
       simp only[binI] at h
       first
       |(
         cases h
         first
         |(refine⟨_,?_,R.i _ _⟩;simp[Go.binOp,Op.intArith,QT];done)
         |(refine⟨_,?_,R.b _⟩;simp[Go.binOp,Op.intCmp,iU,a2i];done)
         |(refine⟨_,?_,R.b _⟩;simp only[Go.binOp,Op.intCmp,ne_eq,not_true_eq_false,if_false,dZ,gx,ec];congr 2;rw[oA];simp;done))
       |(split at h<;>cases h;rename_i hq;refine⟨_,?_,R.i _ _⟩;simp[Go.binOp,Op.intDiv,hq];done)
       |(unfold Qv at h;dsimp only at h;cases h;refine⟨_,?_,R.i _ _⟩;simp[Go.binOp,Op.intBits];done))
   ·cases h
 ·rename_i s1 s2;obtain⟨rfl,h1⟩:=ha.pn;obtain⟨rfl,h2⟩:=hb.pn;have hg:∀fX g5,eqGuard op t fX g5 (.string (strOf s1)) (.string (strOf s2))=pure ():=fun fX g5=>by unfold eqGuard;cases op<;>rfl
  simp only[hg];refine(fun⟨u,h1,h2⟩=>⟨u,h1,h2,fun _ _=>trivial⟩:(∃u,(do pure ();Go.binOp op t (.string (strOf s1)) (.string (strOf s2)):Sem Value).run P w= .ok u w∧R w m O B v u)→_) ?_;have aM:=a2f h1 h2;have e2:Op.bytesLess (strOf s1).toList (strOf s2).toList=iy s1 s2:=by rw[zn,zn];exact QX s1 s2 h1 h2
  have dn:(iy s1 s2||eqL s1 s2)= !iy s2 s1:=by
   cases h3:iy s2 s1 with
   |true=>
    have:=QZ s2 s1 h3;have ba:eqL s1 s2=false:=by
     cases cr:eqL s1 s2 with
     |false=>rfl
     |true=>
      have:=(pk s1 s2).1 cr;subst this;exact absurd ((pk s1 s1).2 rfl) (by rw[this.2];simp)
    simp[this.1,ba]
   |false=>rcases QY s1 s2 h3 with aE|aE<;>simp[aE]
  have fe:(!iy s1 s2&& !eqL s1 s2)=iy s2 s1:=by
   have:=congrArg Bool.not dn;simpa using this
  cases op<;>simp only[binS] at h<;>first
   |(cases h;done)
   |(
     split at h<;>cases h;rename_i bV;have b8w:s1.length+s2.length<4611686018427387904:=by simpa [gg] using bV
     refine⟨_,?_,.s _ (fun c ah=>(dE.1 ah).elim (h1 c) (h2 c))⟩;simp only[Go.binOp,Op.stringOp,vr,dZ,gx,ec];rw[if_neg (by simp only[IntKind.max,IntKind.signed,IntKind.bits,if_true];omega),a2g];rfl)
   |(cases h;refine⟨_,?_,R.b _⟩;simp[Go.binOp,Op.stringOp,aM,e2,dn,fe];done)
 ·-- a byte of Qt is known J7 it leaves
  rename_i gG d j bj c;split at h<;>try (cases h;done)
  rename_i xi;subst xi;cases ha with
  | @h4 _ _ _ _ _ _ n hn bZ=>
  obtain rfl:=hb.ll;have hg:∀fX g5,eqGuard op t fX g5 (.int gG (Int.ofNat n)) (.int gG (Int.ofNat c))=pure ():=fun fX g5=>by unfold eqGuard;cases op<;>rfl
  simp only[hg];refine(fun⟨u,h1,h2⟩=>⟨u,h1,h2,fun _ _=>trivial⟩:(∃u,(do pure ();Go.binOp op t (.int gG (Int.ofNat n)) (.int gG (Int.ofNat c)):Sem Value).run P w= .ok u w∧R w m O B v u)→_) ?_;unfold umOp at h;cases ah:(Nat.blt 0 c&&(Nat.beq (d%c) 0&&(decide (gG= .u8)||decide (gG= .i64)))) with
  |false=>rw[ah] at h;cases h
  |true=>
   rw[ah,cond_true] at h;simp only[cx,mL,gg,m3,decide_eq_true_eq] at ah;obtain⟨hc1,oM,a2j⟩:=ah;obtain⟨e,rfl⟩:=Nat.dvd_of_mod_eq_zero oM;have hc0:(Int.ofNat c)≠0:=by intro h;have:c=0:=vD h;omega
   split at h<;>cases h
   ·refine⟨.int gG (Int.ofNat (n%c)),?_,?_⟩
    ·have aM:(Int.ofNat n).tmod (Int.ofNat c)=Int.ofNat (n%c):=rfl;simp only[Go.binOp,Op.intDiv,ne_eq,not_true_eq_false,if_false,hc0,aM,dZ,gx,ec]
    ·rw[←hn,Nat.mod_mul_right_mod];exact .i _ _
   ·refine⟨.int gG (Int.ofNat (n/c)),?_,?_⟩
    ·have aM:(Int.ofNat n).tdiv (Int.ofNat c)=Int.ofNat (n/c):=rfl;have h1:n/c<256:=NM (Nat.div_le_self _ _) bZ;have e2:gG.wrap (Int.ofNat (n/c))=Int.ofNat (n/c):=Q3 a2j h1;simp only[Go.binOp,Op.intDiv,ne_eq,not_true_eq_false,if_false,hc0,aM,e2,dZ,gx,ec]
    ·refine .h4 ?_ (NM (Nat.div_le_self _ _) bZ);rw[←hn,Nat.mul_div_cancel_left _ (by omega),Nat.mod_mul_right_div_self]
 ·exact absurd rfl (jy _ _)
 ·exact absurd rfl (hR _ _)
 ·exact absurd rfl (BX _)
 ·rename_i l ex;obtain⟨rfl,h1⟩:=ha.pn;unfold sxEq at h;cases hm:qh l ex with
  |false=>rw[hm] at h;cases h
  |true=>
   obtain⟨s,rfl,bx⟩:=FI hb hm;have hg:∀fX g5,eqGuard op t fX g5 (.string (strOf l)) (.string s)=pure ():=fun fX g5=>by unfold eqGuard;cases op<;>rfl
   simp only[hg];refine(fun⟨u,h1,h2⟩=>⟨u,h1,h2,fun _ _=>trivial⟩:(∃u,(do pure ();Go.binOp op t (.string (strOf l)) (.string s):Sem Value).run P w= .ok u w∧R w m O B v u)→_) ?_;have aM:=Q1 (oa bx);rw[hm,cond_true] at h;split at h<;>cases h<;>(refine⟨_,?_,R.b _⟩;simp[Go.binOp,Op.stringOp,aM];done)
 ·rename_i ex l;obtain⟨rfl,h1⟩:=hb.pn;unfold sxEq at h;cases hm:qh l ex with
  |false=>rw[hm] at h;cases h
  |true=>
   obtain⟨s,rfl,bx⟩:=FI ha hm;have hg:∀fX g5,eqGuard op t fX g5 (.string s) (.string (strOf l))=pure ():=fun fX g5=>by unfold eqGuard;cases op<;>rfl
   simp only[hg];refine(fun⟨u,h1,h2⟩=>⟨u,h1,h2,fun _ _=>trivial⟩:(∃u,(do pure ();Go.binOp op t (.string s) (.string (strOf l)):Sem Value).run P w= .ok u w∧R w m O B v u)→_) ?_;have aM:=Q1 bx;rw[hm,cond_true] at h;split at h<;>cases h<;>(refine⟨_,?_,R.b _⟩;simp[Go.binOp,Op.stringOp,aM];done)
 ·cases h
theorem Q4{op:BinOp}{aK hi c k:Nat}{v:AV}(h1:aK≤k)(h2:k≤hi)(h:ivOp op aK hi c=some v):∃a2,binop op (.i .i64 (Int.ofNat k)) (.i .i64 (Int.ofNat c))=some a2∧∀ {w:World} {m:Nat→Option Nat} {O:Nat→Prop} {B:Nat} {u:Value},R w m O B a2 u→R w m O B v u:=by
 have BY:∀ {c l:Nat},Nat.blt c l=true→c<l:=fun h=>eV h;have Q5:∀ {c l:Nat},Nat.ble c l=true→c≤l:=fun h=>eV h;unfold ivOp at h;split at h
 ·cases hq:Nat.blt (hi+c) 4611686018427387904 with
  |false=>rw[hq] at h;cases h
  |true=>
   rw[hq,cond_true] at h;cases h;have:=BY hq;refine⟨.i .i64 (Int.ofNat (k+c)),?_,fun bD=>?_⟩
   ·show some (AV.i .i64 (wrapN .i64 (Int.ofNat (k+c))))=_;have:Nat.blt (k+c) 9223372036854775808=true:=eu (by omega);show some (AV.i .i64 (cond (Nat.blt (k+c) 9223372036854775808) _ _))=_;rw[this];rfl
   ·cases bD;exact .gv _ (by omega) (by omega)
 ·cases hq:Nat.beq c 0 with
  |false=>rw[hq] at h;cases h
  |true=>
   rw[hq,cond_true] at h;cases h;obtain rfl:=fm hq;refine⟨.i .i64 (Int.ofNat 0),?_,fun h=>h⟩;rfl
 all_goals
  refine⟨v,?_,fun h=>h⟩
 ·show some (AV.b (decide (Int.ofNat c<Int.ofNat k)))=_;rw[←h];cases hq:Nat.ble hi c with
  |true=>have:=Q5 hq;rw[cond_true,decide_eq_false (by simp only[tR,Ao];omega)]
  |false=>
   rw[hq,cond_false] at h;cases hq2:Nat.blt c aK with
   |true=>have:=BY hq2;rw[cond_false,cond_true,decide_eq_true (by simp only[tR,Ao];omega)]
   |false=>rw[hq2] at h;cases h
 ·show some (AV.b (decide (Int.ofNat k≤Int.ofNat c)))=_;rw[←h];cases hq:Nat.ble hi c with
  |true=>have:=Q5 hq;rw[cond_true,decide_eq_true (by simp only[tR,Int.ofNat_le];omega)]
  |false=>
   rw[hq,cond_false] at h;cases hq2:Nat.blt c aK with
   |true=>have:=BY hq2;rw[cond_false,cond_true,decide_eq_false (by simp only[tR,Int.ofNat_le];omega)]
   |false=>rw[hq2] at h;cases h
 ·cases hq:(Nat.blt c aK||Nat.blt hi c) with
  |false=>rw[hq] at h;cases h
  |true=>
   rw[hq,cond_true] at h;cases h;rw[mL] at hq;have bx:k≠c:=by rcases hq with h|h<;>have:=BY h<;>omega
   show some (AV.b (decide (Int.ofNat k=Int.ofNat c)))=_;rw[decide_eq_false (by intro e;exact bx (vD e))]
 ·cases hq:(Nat.blt c aK||Nat.blt hi c) with
  |false=>rw[hq] at h;cases h
  |true=>
   rw[hq,cond_true] at h;cases h;rw[mL] at hq;have bx:k≠c:=by rcases hq with h|h<;>have:=BY h<;>omega
   show some (AV.b (!decide (Int.ofNat k=Int.ofNat c)))=_;rw[decide_eq_false (by intro e;exact bx (vD e))];rfl
 ·cases h
theorem ok_bin{op:BinOp}{t:TypeId}{x y v:AV}{a b:Value}(ha:R w m O B x a)(hb:R w m O B y b)(h:binop op x y=some v):
  ∃u,(do eqGuard op t (.tmp 0) (.tmp 0) a b;Go.binOp op t a b:Sem Value).run P w= .ok u w∧R w m O B v u∧∀fX g5,(do eqGuard op t fX g5 a b;Go.binOp op t a b:Sem Value)=(do eqGuard op t (.tmp 0) (.tmp 0) a b;Go.binOp op t a b:Sem Value):=by
 by_cases av:∃aK hi,x= .gv aK hi
 ·obtain⟨aK,hi,rfl⟩:=av;cases ha with
  |gv k h1 h2=>
   cases y with
   |i l c=>
    cases l with
    |i64=>
     cases c with
     |ofNat c=>
      obtain⟨a2,h3,aE⟩:=Q4 h1 h2 (h:ivOp op aK hi c=some v);obtain⟨u,ba,cr,de⟩:=FJ (P:=P) (t:=t) (.i _ _) hb h3 (fun _ h=>by cases h) (fun _ _ h=>by cases h) (fun _ _ h=>by cases h);exact⟨u,ba,aE cr,de⟩
     |negSucc c=>cases h
    |_=>cases h
   |_=>cases h
 by_cases hR:∃aK hi,y= .gv aK hi
 ·obtain⟨aK,hi,rfl⟩:=hR;cases hb with
  |gv k h1 h2=>
   cases x with
   |i l c=>
    cases l with
    |i64=>
     cases c with
     |ofNat c=>
      cases op<;>first|(cases h;done)|skip
      replace h:ivOp .add aK hi c=some v:=h;obtain⟨a2,h3,aE⟩:=Q4 h1 h2 h;have zo:binop .add (.i .i64 (Int.ofNat c)) (.i .i64 (Int.ofNat k))=some a2:=by
       rw[←h3];show some (AV.i .i64 (wrapN .i64 (Int.ofNat c+Int.ofNat k)))=some (AV.i .i64 (wrapN .i64 (Int.ofNat k+Int.ofNat c)));rw[Int.add_comm]
      obtain⟨u,ba,cr,de⟩:=FJ (P:=P) (t:=t) ha (.i _ _) zo (fun _ h=>by cases h) (fun _ _ h=>by cases h) (fun _ _ h=>by cases h);exact⟨u,ba,aE cr,de⟩
     |negSucc c=>cases h
    |_=>cases h
   |_=>cases h
 by_cases hi:∃hi,x= .iQ hi
 ·obtain⟨hi,rfl⟩:=hi;cases ha with
  |iQ n hn=>
   refine FJ (x:=.i .i64 n) (.i _ _) hb ?_ (fun _ h=>by cases h) (fun _ _ h=>by cases h) (fun _ _ h=>hR ⟨_,_,h⟩);cases y with
   |i l c=>
    cases c with
    |ofNat c=>
     replace h:(if l= .i64∧c=40 then(match op with| .gtr=>some (AV.b hi)| .leq=>some (.b (!hi))|_=>none) else none)=some v:=h;split at h
     ·rename_i ah;obtain⟨rfl,rfl⟩:=ah;split at h<;>cases h
      ·show(if IntKind.i64=IntKind.i64 then some (AV.b (decide (Int.ofNat 40<n))) else none)=_;rw[if_pos rfl,hn];rfl
      ·show(if IntKind.i64=IntKind.i64 then some (AV.b (decide (n≤Int.ofNat 40))) else none)=_;rw[if_pos rfl,hn]
       congr 2
       by_cases Ku:(40:Int)<n
       ·rw[decide_eq_true Ku,decide_eq_false (by show ¬n≤40;omega)];rfl
       ·rw[decide_eq_false Ku,decide_eq_true (by show n≤40;omega)];rfl
     ·cases h
    |negSucc c=>cases h
   |_=>cases h
 ·exact FJ ha hb h (fun h e=>hi ⟨h,e⟩) (fun _ _ h=>av ⟨_,_,h⟩) (fun _ _ h=>hR ⟨_,_,h⟩)
theorem a2k(d:Nat){t:TypeId}(ht:P.underlying t=some .bool)(a b:Bool):(Op.equalIn (d+1) t (.bool a) (.bool b)).run P w= .ok (a==b) w:=by
 simp[Op.equalIn,run_underlying ht]
theorem a2l{t:TypeId}(ht:P.underlying t=some .bool){x y:AV}{v:Bool}{a b:Value}(ha:R w m O B x a)(hb:R w m O B y b)(h:binopB x y=some v)(fX g5:Operand):
  (do eqGuard .eql t fX g5 a b;Go.binOp .eql t a b:Sem Value).run P w= .ok (.bool v) w∧(do eqGuard .neq t fX g5 a b;Go.binOp .neq t a b:Sem Value).run P w= .ok (.bool (!v)) w:=by
 unfold binopB at h;split at h<;>cases h;rename_i c d;obtain rfl:=ha.vs;obtain rfl:=hb.vs;have he:(Op.equal t (.bool c) (.bool d)).run P w= .ok (c==d) w:=a2k 9999 ht c d;have h1:Go.binOp .eql t (.bool c) (.bool d)=(do pure (.bool (←Op.equal t (.bool c) (.bool d))):Sem Value):=rfl;have h2:Go.binOp .neq t (.bool c) (.bool d)=(do pure (.bool (!(←Op.equal t (.bool c) (.bool d)))):Sem Value):=rfl;have bM:eqGuard .eql t fX g5 (.bool c) (.bool d)=pure ():=rfl;have b4:eqGuard .neq t fX g5 (.bool c) (.bool d)=pure ():=rfl;rw[h1,h2,bM,b4];constructor<;>simp[he]
def Q6(P:Program)(t:TypeId)(kind:Nat):Prop:=
 (kind=0∧∃ms,P.underlying t=some (.interface ms))∨(kind=1∧∃e,P.underlying t=some (.pointer e))∨(kind=2∧∃ps rs v,P.underlying t=some (.func ps rs v))∨
 (kind=3∧∃e,P.underlying t=some (.slice e))∨(kind=4∧∃k e,P.underlying t=some (.map k e))
theorem a2m{t:TypeId}{fX g5:Operand}{v:Bool}{A C:Value}(bM:eqGuard .eql t fX g5 A C=pure ())(b4:eqGuard .neq t fX g5 A C=pure ())(h1:Go.binOp .eql t A C=(do pure (.bool (←Op.equal t A C)):Sem Value))
  (h2:Go.binOp .neq t A C=(do pure (.bool (!(←Op.equal t A C))):Sem Value)) (he:∀d,(Op.equalIn (d+1) t A C).run P w= .ok v w):
  ((do eqGuard .eql t fX g5 A C;Go.binOp .eql t A C:Sem Value).run P w= .ok (.bool v) w∧(do eqGuard .neq t fX g5 A C;Go.binOp .neq t A C:Sem Value).run P w= .ok (.bool (!v)) w):=by
 have BZ:(Op.equal t A C).run P w= .ok v w:=he 9999;rw[h1,h2,bM,b4];constructor<;>simp[BZ]
theorem a2n{t:TypeId}{kind:Nat}(ht:Q6 P t kind){x y:AV}{v:Bool}{a b:Value}
  (ha:R w m O B x a) (hb:R w m O B y b) (h:isNilEq kind x y=some v) (fX g5:Operand):
  (((do eqGuard .eql t fX g5 a b;Go.binOp .eql t a b:Sem Value).run P w= .ok (.bool v) w∧(do eqGuard .neq t fX g5 a b;Go.binOp .neq t a b:Sem Value).run P w= .ok (.bool (!v)) w)):=by
 unfold isNilEq at h;split at h
 case h_13=>cases h
 case h_12=>
  rcases ht with⟨rfl,_⟩|⟨rfl,_⟩|⟨rfl,_⟩|⟨rfl,_⟩|⟨rfl,_⟩<;>cases h
 all_goals
  cases h<;>cases ha<;>cases hb<;>
  (rcases ht with⟨aD,ms,hu⟩|⟨aD,e,hu⟩|⟨aD,ps,rs,b8x,hu⟩|⟨aD,e,hu⟩|⟨aD,ew,e,hu⟩<;>first
   |(cases aD;done)
   |(refine a2m rfl rfl rfl rfl (fun d=>?_);simp[Op.equalIn,run_underlying hu];done))
end
section
variable {P:Program}{w:World}{m:Nat→Option Nat}{O:Nat→Prop}{B:Nat}
theorem Kv{t:TypeId}{i off:Nat}{ad:Option Nat}(h:fieldOf P t i=some (off,ad)):
  ∃fs t_,P.underlying t=some (.struct fs)∧fs[i]? =some t_∧t_.offset=off∧shapeOf P t_.type=some ad∧shN ad≠0:=by
 unfold fieldOf at h;split at h<;>try (cases h;done)
 rename_i fs hu;split at h<;>try (cases h;done)
 rename_i t_ hf;split at h<;>try (cases h;done)
 rename_i fp aj;split at h<;>cases h;rename_i bg;exact⟨fs,t_,hu,hf,rfl,aj,bg⟩
theorem Q7{ad:Option Nat}{c:List AV}{v:AV}(h:fI ad c=some v)(hf:∀x∈c,conf none x=true):v.cells=c.take (shN ad)∧shN ad≤c.length:=by
 cases ad with
 |none=>
  obtain⟨r,rfl⟩:=BT h;have:=hf v (by simp);refine⟨?_,by simp[shN]⟩;cases v<;>first|rfl|(simp[conf] at this)
 |some n=>
  obtain⟨rfl,hn⟩:=BU h;exact⟨rfl,hn⟩
theorem a2o{ad:Option Nat}{c:List AV}{v:AV}(h:fI ad c=some v)(hf:∀x∈c,conf none x=true):conf ad v=true:=by
 cases ad with
 |none=>
  obtain⟨r,rfl⟩:=BT h;exact hf v (by simp)
 |some n=>
  obtain⟨rfl,hn⟩:=BU h;simp[conf];omega
theorem R.Q8{ol:Bool}{cs:List AV}{u:Value}(h:R w m O B (.cZ ol (.ag cs)) u){ad:Option Nat}{k:Nat}{v:AV}(av:fI ad (cs.drop k)=some v):
  ∃ax J,u= .pointer (some ⟨ax,J,none⟩)∧R w m O B (.cZ ol v) (.pointer (some ⟨ax,J+k,none⟩)):=by
 cases h with
 | @cZ _ _ _ _ _ ax off aO db hb c4 ah al hf=>
  simp only[AV.cells] at ah al hf;have Q9:∀x∈cs.drop k,conf none x=true:=fun x hx=>hf x (mw hx);obtain⟨nV,hle⟩:=Q7 av Q9;have hlen:v.cells.length=shN ad:=by rw[nV,eL];omega
  have aD:k+shN ad≤cs.length∨shN ad=0:=by simp at hle;omega
  refine⟨ax,off,rfl,.cZ (fun j=>aO (k+j)) db hb c4 (fun j az=>?_) (fun j az=>?_) (fun x hx=>?_)⟩
  ·rw[tS];exact ah (k+j) (by omega)
  ·have ff:k+j<cs.length:=by omega
   have e:v.cells[j]=cs[k+j]:=by
    have:v.cells[j]? =cs[k+j]? :=by
     rw[nV,qe (by omega),lL]
    rw[a9 az,a9 ff] at this;exact ia this
   rw[e];exact al (k+j) ff
  ·rw[nV] at hx;exact Q9 x (oy hx)
theorem Q_{t:TypeId}{i off:Nat}{ad:Option Nat}(h:fieldOf P t i=some (off,ad))(b J:Nat):
  (Instr.fieldAt t (.pointer (some ⟨b,J,none⟩)) i).run P w= .ok (.pointer (some ⟨b,J+off,none⟩)) w:=by
 obtain⟨fs,t_,hu,hf,rfl,aj,bg⟩:=Kv h;obtain⟨_,bV,_⟩:=km aj w;simp[Instr.fieldAt,run_underlying hu,hf,Instr.sureAddr,fieldPlace,bV,bg,h5]
theorem a2p{t:TypeId}{i off:Nat}{ad:Option Nat}(h:fieldOf P t i=some (off,ad)){x v:AV}{u:Value}(hx:R w m O B x u)
  (av:fieldAddrA off ad x=some v):∃bR,(Instr.fieldAt t u i).run P w= .ok bR w∧R w m O B v bR:=by
 unfold fieldAddrA at av;split at av<;>try (cases av;done)
 ·rename_i hx;cases av;obtain⟨ax,hm,rfl⟩:=hx.tZ;exact⟨_,Q_ h _ _,.p hm⟩
 ·rename_i hx;split at av<;>cases av;rename_i a2 ht;obtain⟨ax,J,rfl,al⟩:=hx.Q8 ht;exact⟨_,Q_ h _ _,al⟩
theorem Ra{t:TypeId}{ad:Option Nat}(aj:shapeOf P t=some ad){cs:List AV}{arr:Array Value}(ah:bz w m O B cs arr.toList)(hf:∀x∈cs,conf none x=true){off:Nat}{v:AV}(av:fI ad (cs.drop off)=some v):
  ∃bR,(part t arr off).run P w= .ok bR w∧R w m O B v bR:=by
 obtain⟨h1,h2,_⟩:=km aj w;have au:=ah.drop off;cases ad with
 |none=>
  obtain⟨r,al⟩:=BT av;rw[al] at au;obtain⟨u,hu,ic⟩:=au.get (i:=0) (v:=v) rfl;rw[lL] at hu;have sB:arr[off]? =some u:=by simpa using hu
  exact⟨u,by simp[part,h1,sB],ic⟩
 |some n=>
  obtain⟨rfl,hn⟩:=BU av;have e:(arr.extract off (off+n))=((arr.toList.drop off).take n).toArray:=by
   apply lV;simp
  exact⟨.agg (arr.extract off (off+n)),by simp[part,h1,h2,shN],by rw[e];exact R.xe (au.take n) (fun x hx=>hf x (mw (oy hx)))⟩
theorem a2q{t:TypeId}{i off:Nat}{ad:Option Nat}(h:fieldOf P t i=some (off,ad)){cs:List AV}{v:AV}{u:Value}(hx:R w m O B (.ag cs) u)(av:fI ad (cs.drop off)=some v):
  ∃bR,(Instr.field t u i).run P w= .ok bR w∧R w m O B v bR:=by
 obtain⟨fs,t_,hu,hf,rfl,aj,bg⟩:=Kv h;obtain⟨a3,rfl,ar,nW⟩:=hx.ql;obtain⟨bR,h1,h2⟩:=Ra (w:=w) aj ar nW av;exact⟨bR,by simp[Instr.field,run_underlying hu,hf,asAgg,h1],h2⟩
theorem a2r{t e:TypeId}{n:Nat}{ad:Option Nat}(hu:P.underlying t=some (.array n e))(aj:shapeOf P e=some ad){x v:AV}{u:Value}(hx:R w m O B x u){k:IntKind}{j:Nat}(az:j<n)
  (av:fieldAddrA (j*shN ad) ad x=some v):∃bR,(Instr.indexAt t u (.int k (Int.ofNat j))).run P w= .ok bR w∧R w m O B v bR:=by
 unfold fieldAddrA at av;obtain⟨_,bV,_⟩:=km aj w;have key:∀b J,(Instr.indexAt t (.pointer (some ⟨b,J,none⟩)) (.int k (Int.ofNat j))).run P w= .ok (.pointer (some ⟨b,J+j*shN ad,none⟩)) w:=fun b J=>by
  simp[Instr.indexAt,asIntOf,run_underlying hu,Instr.sureAddr,bV,h5,az]
 split at av<;>try (cases av;done)
 ·rename_i hx;cases av;obtain⟨ax,hm,rfl⟩:=hx.tZ;exact⟨_,key _ _,.p hm⟩
 ·rename_i hx;split at av<;>cases av;rename_i a2 ht;obtain⟨ax,J,rfl,al⟩:=hx.Q8 ht;exact⟨_,key _ _,al⟩
theorem a2s{t e:TypeId}{iA:Option Nat}(hu:P.underlying t=some (.slice e))(aj:shapeOf P e=some iA){x v:AV}{u:Value}(hx:R w m O B x u){k:IntKind}{j:Nat}
  (av:idxSlA iA x j=some v):∃bR,(Instr.indexAt t u (.int k (Int.ofNat j))).run P w= .ok bR w∧R w m O B v bR:=by
 unfold idxSlA at av;obtain⟨_,bV,_⟩:=km aj w;have key:∀b J len cap,j<len→(Instr.indexAt t (.slice (some ⟨b,J,none⟩) len cap) (.int k (Int.ofNat j))).run P w= .ok (.pointer (some ⟨b,J+j*shN iA,none⟩)) w:=fun b J len cap az=>by
  simp[Instr.indexAt,asIntOf,run_underlying hu,bV,h5,az]
 split at av<;>try (cases av;done)
 ·rename_i hx;split at av<;>cases av;rename_i fK;simp only[cx,decide_eq_true_eq] at fK;obtain⟨bZ,rfl⟩:=fK;have a2t:=by simpa [gg] using bZ
  cases hx with
  |ak h ar ah hn g3=>exact⟨_,key _ _ _ _ a2t,.p h⟩
 ·rename_i hx;split at av<;>try (cases av;done)
  rename_i he;subst he;split at av<;>cases av;rename_i a2 Rb;rw[BO] at Rb;obtain⟨az,rfl⟩:=ki.1 Rb;cases hx with
  |ma=>simp at az
  | @a7 _ _ _ _ _ _ ax off ev sp aO db zp ah al ar hf eU=>
   have bx:∀ {l:List AV},j<l.length→l≠[]:=fun h e=>by subst e;simp at h
   obtain rfl:=eU (bx az);obtain⟨h1,h2,h3⟩:=db (bx az);exact⟨_,key _ _ _ _ az,.cZ (aO j) h1 h2 h3 (fun i hi=>ah j az i hi) (fun i hi=>al j az i hi) (hf _ (aS az))⟩
theorem a2u{t:TypeId}(hu:P.underlying t=some .string){l:List Nat}{u:Value}(hx:R w m O B (.s l) u){k:IntKind}{j c:Nat}(az:nth l j=some c):
  (Instr.index t u (.int k (Int.ofNat j))).run P w= .ok (.int .u8 (Int.ofNat c)) w:=by
 obtain⟨rfl,ar⟩:=hx.pn;rw[BO] at az;obtain⟨bZ,er⟩:=ki.1 az;have ah:c<256:=ar c (by rw[←er];exact aS bZ);have aj:(strOf l)[j]? =some c.toUInt8:=by
  have h1:j<(strOf l).size:=by rw[vr];exact bZ
  rw[getElem?_pos (strOf l) j h1]
  congr 1
  show(strOf l).data[j]=_;simp[strOf,er]
 simp only[Instr.index,asIntOf,dZ,gx,ec,run_underlying hu];have:(0:Int)≤Int.ofNat j:=Dl j;simp[aj];omega
theorem a2v{t e:TypeId}{n:Nat}{ad:Option Nat}(hu:P.underlying t=some (.array n e))(aj:shapeOf P e=some ad){cs:List AV}{v:AV}{u:Value}(hx:R w m O B (.ag cs) u){k:IntKind}{j:Nat}(az:j<n)
  (av:fI ad (cs.drop (j*shN ad))=some v):∃bR,(Instr.index t u (.int k (Int.ofNat j))).run P w= .ok bR w∧R w m O B v bR:=by
 obtain⟨_,bV,_⟩:=km aj w;obtain⟨a3,rfl,ar,nW⟩:=hx.ql;obtain⟨bR,h1,h2⟩:=Ra (w:=w) aj ar nW av;exact⟨bR,by simp[Instr.index,asIntOf,run_underlying hu,bV,az,h1],h2⟩
theorem a2w{l:List AV}{u:Value}(hx:R w m O B (.bJ l) u){i:Nat}{v:AV}(av:nth l i=some v):∃bR,(Instr.extract u i).run P w= .ok bR w∧R w m O B v bR:=by
 obtain⟨a3,rfl,ar⟩:=hx.Kp;rw[BO] at av;obtain⟨bR,h1,h2⟩:=ar.get av;have FK:a3[i]? =some bR:=by simpa using h1
 exact⟨bR,by simp[Instr.extract,FK],h2⟩
end
section
variable {P:Program}{w:World}{m:Nat→Option Nat}{O:Nat→Prop}{B:Nat}
theorem a2x{k:IntKind}{n y:Nat}{code:BoundsCode}(h:n≤y):(Instr.sliceBound (.int k (Int.ofNat n)) y code).run P w= .ok n w:=by
 have:((Int.ofNat n)≤(y:Int)):=by show((n:Nat):Int)≤y;omega
 simp[Instr.sliceBound,asIntOf,h]
theorem Rc{k:IntKind}{n y:Nat}{code:BoundsCode}(h:n≤y):(Instr.sliceBound (.int k (n:Int)) y code).run P w= .ok n w:=a2x h
inductive j5(d:Nat):Option Value→Nat→Prop
 |none:j5 d none d
 |some (k:IntKind) (n:Nat):j5 d (some (.int k (Int.ofNat n))) n
theorem a2y{env:Env}(db:∀b,O b→B≤b)(gF:Globs env w B){ak:aT AV}{a:Act}(aj:jf w m O B ak a.tmps.toList){x:Option Operand}{bA:Option aC}(hx:opdO x=some bA){d n:Nat}(av:bndO (evalA env ak) bA d=some n):j5 d (x.map a.eval) n:=by
 cases x with
 |none=>
  cases hx;simp only[bndO,a6] at av;subst av;exact .none
 |some x=>
  simp only[opdO] at hx;split at hx<;>cases hx;rename_i fX gp;simp only[bndO] at av;split at av<;>try (cases av;done)
  rename_i v he;obtain⟨k,rfl⟩:=BW av;have:=(Ks db gF aj gp he).ll;simp only[wj,this];exact .some k n
theorem rk{isSlice:Bool}{len cap:Nat}{aK hi:Option Value}{l h:Nat}(ar:j5 0 aK l)(hh:j5 len hi h)(h1:l≤h)(h2:h≤cap):
  (Instr.sliceBounds isSlice len cap aK hi none).run P w= .ok (l,h,cap) w:=by
 cases ar<;>cases hh<;>simp[Instr.sliceBounds,Rc,h1,h2]
theorem Kw{isSlice:Bool}{len cap:Nat}{aK:Option Value}{l h k:Nat}{sC qm:IntKind}(ar:j5 0 aK l)(h1:l≤h)(h2:h≤k)(h3:k≤cap):
  (Instr.sliceBounds isSlice len cap aK (some (.int sC (Int.ofNat h))) (some (.int qm (Int.ofNat k)))).run P w= .ok (l,h,k) w:=by
 cases ar<;>simp[Instr.sliceBounds,Rc,h1,h2,h3]
theorem a2z(s:List Nat)(l h:Nat):(strOf s).extract l h=strOf ((s.drop l).take (h-l)):=by
 apply ByteArray.ext;rw[ByteArray.data_extract];apply lV;simp[strOf,List.map_take,I2]
theorem a2A{t:TypeId}(hu:P.underlying t=some .string){s:List Nat}{u:Value}(hx:R w m O B (.s s) u){aK hi:Option Value}{l h:Nat}(ar:j5 0 aK l)(hh:j5 s.length hi h)(h1:l≤h)(h2:h≤s.length):
  ∃bR,(Instr.sliceAt t u aK hi none).run P w= .ok bR w∧R w m O B (.s ((s.drop l).take (h-l))) bR:=by
 obtain⟨rfl,hb⟩:=hx.pn;refine⟨_,?_,.s _ (fun c ah=>hb c (mw (oy ah)))⟩;simp[Instr.sliceAt,Instr.slice,run_underlying hu,vr,rk ar hh h1 h2,a2z]
theorem a2B{t e:TypeId}{n:Nat}{ad:Option Nat}(hu:P.underlying t=some (.array n e))(aj:shapeOf P e=some ad){id off ax k:Nat}(hm:m id=some ax)(aD:dU w ax=some k)(B0:off+n*shN ad≤k)
  {aK hi:Option Value} {l h:Nat} (ar:j5 0 aK l) (hh:j5 n hi h) (h1:l≤h) (h2:h≤n):
  ∃bR,(Instr.sliceAt t (.pointer (some ⟨ax,off,none⟩)) aK hi none).run P w= .ok bR w∧R w m O B (.ak id (if n=l then off else off+l*shN ad) (h-l) ad (some (n-l))) bR:=by
 obtain⟨_,bV,_⟩:=km aj w;refine⟨.slice (some ⟨ax,if n=l then off else off+l*shN ad,none⟩) (h-l) (n-l),?_,.ak hm (by omega) (fun c ah=>by cases ah;rfl) aD ?_ (fun h=>by cases h)⟩
 ·simp only[Instr.sliceAt,run_underlying hu,dZ,ec,Instr.sureAddr,gx,rk ar hh h1 h2,bV];split<;>simp[h5]
 ·split
  ·rename_i e;subst e;simp;omega
  ·have:(n-l)*shN ad+l*shN ad=n*shN ad:=by rw[←ju];congr 1;omega
   omega
theorem a2C{t e:TypeId}{iA:Option Nat}(hu:P.underlying t=some (.slice e))(aj:shapeOf P e=some iA){id off len:Nat}{ad cap:Option Nat}(cL:ad=iA){u:Value}(hx:R w m O B (.ak id off len ad cap) u)
  {aK hi:Option Value} {l h:Nat} (ar:j5 0 aK l) (hh:j5 len hi h) (h1:l≤h):
  (∀(c9:Option Value) (qm:IntKind) (k:Nat),c9=some (.int qm (Int.ofNat k))→hi.isSome=true→h≤k→k≤(cap.getD len)→
   ∃bR,(Instr.sliceAt t u aK hi c9).run P w= .ok bR w∧R w m O B (.ak id (if k=l then off else off+l*shN ad) (h-l) ad (some (k-l))) bR)∧
  (∀c,cap=some c→h≤c→∃bR,(Instr.sliceAt t u aK hi none).run P w= .ok bR w∧R w m O B (.ak id (if c=l then off else off+l*shN ad) (h-l) ad (some (c-l))) bR)∧
  (cap=none→h≤len→l=0→∃bR,(Instr.sliceAt t u aK hi none).run P w= .ok bR w∧R w m O B (.ak id off h ad none) bR)∧
  (cap=none→h≤len→l<len→∃bR,(Instr.sliceAt t u aK hi none).run P w= .ok bR w∧R w m O B (.ak id (off+l*shN ad) (h-l) ad none) bR)∧
  (cap=none→l=len→h=len→∃bR,(Instr.sliceAt t u aK hi none).run P w= .ok bR w∧R w m O B (.a7 true ad []) bR):=by
 subst cL;obtain⟨_,bV,_⟩:=km aj w;cases hx with
 | @ak _ _ _ _ _ _ ax n ev _ _ hm hlen ah hn g3 c7=>
  have FL:∀k,l≤k→(k-l)*shN ad+l*shN ad=k*shN ad:=fun k aD=>by rw[←ju];congr 1;omega
  have a2D:∀k,k≤ev→k*shN ad≤ev*shN ad:=fun k aD=>qa _ aD;refine⟨?_,?_,?_,?_,?_⟩
  ·rintro c9 qm k rfl me rl nX;have mf:k≤ev:=by
    cases cap with
    |none=>simp at nX;omega
    |some c=>have:=ah c rfl;simp at nX;omega
   cases hh with
   |none=>simp at me
   |some sC h=>
    refine⟨.slice (some ⟨ax,if k=l then off else off+l*shN ad,none⟩) (h-l) (k-l),?_,.ak hm (by omega) (fun c ah=>by cases ah;rfl) hn ?_ (fun h=>by cases h)⟩
    ·simp only[Instr.sliceAt,Instr.slice,run_underlying hu,dZ,ec,Kw ar h1 rl mf,bV,gx];split<;>simp[h5]
    ·have:=a2D k mf;split
     ·rename_i e;subst e;simp;omega
     ·have:=FL k (by omega);omega
  ·rintro c rfl oM;obtain rfl:=ah c rfl;refine⟨.slice (some ⟨ax,if ev=l then off else off+l*shN ad,none⟩) (h-l) (ev-l),?_,.ak hm (by omega) (fun c ah=>by cases ah;rfl) hn ?_ (fun h=>by cases h)⟩
   ·simp only[Instr.sliceAt,Instr.slice,run_underlying hu,dZ,ec,rk ar hh h1 oM,bV,gx];split<;>simp[h5]
   ·split
    ·rename_i e;subst e;simp;omega
    ·have:=FL ev (by omega);omega
  ·rintro rfl hle rfl;refine⟨.slice (some ⟨ax,off,none⟩) h ev,?_,.ak hm (by omega) (fun c ah=>by cases ah) hn g3 c7⟩;simp only[Instr.sliceAt,Instr.slice,run_underlying hu,dZ,ec,rk ar hh h1 (l_ hle hlen),bV,gx];split<;>simp[h5]
  ·rintro rfl hle bZ;refine⟨.slice (some ⟨ax,off+l*shN ad,none⟩) (h-l) (ev-l),?_,.ak hm (by omega) (fun c ah=>by cases ah) hn ?_ (fun _=>by have:=FL ev (by omega);have:=c7 rfl;omega)⟩
   ·simp only[Instr.sliceAt,Instr.slice,run_underlying hu,dZ,ec,rk ar hh h1 (l_ hle hlen),bV,gx];rw[if_neg (by omega)];simp[h5]
   ·have:=FL ev (by omega);omega
  ·rintro rfl hl1 rm;refine⟨.slice (some ⟨ax,if ev=l then off else off+l*shN ad,none⟩) (h-l) (ev-l),?_,?_⟩
   ·simp only[Instr.sliceAt,Instr.slice,run_underlying hu,dZ,ec,rk ar hh h1 (show h≤ev by omega),bV,gx];split<;>simp[h5]
   ·rw[show h-l=([]:List AV).length from by rw[hl1,rm];simp];exact .a7 (fun _ _=>.bool true) (fun h=>absurd rfl h) (fun i h=>by simp at h) (fun i h=>by simp at h) (fun i h=>by simp at h) (hv _) (fun v av=>by simp at av) (fun h=>absurd rfl h)
theorem a2E{t e:TypeId}{iA:Option Nat}(hu:P.underlying t=some (.slice e))(aj:shapeOf P e=some iA){id off len k:Nat}{ad:Option Nat}(cL:ad=iA){u:Value}(hx:R w m O B (.ak id off len ad none) u)
  {aK hi:Option Value} (ar:j5 0 aK 0) (hh:j5 len hi k) (h0:0<shN ad) (h1:len≤k) (h2:∀ax n,m id=some ax→dU w ax=some n→off+k*shN ad≤n):
  ∃bR,(Instr.sliceAt t u aK hi none).run P w= .ok bR w∧R w m O B (.ak id off k ad none) bR:=by
 subst cL;obtain⟨_,bV,_⟩:=km aj w;cases hx with
 | @ak _ _ _ _ _ _ ax n ev _ _ hm hlen ah hn g3 c7=>
  have hle:k≤ev:=by
   have h3:=h2 _ _ hm hn;have aE:=c7 rfl;rcases mK ev k with h|h
   ·have:=Nat.mul_lt_mul_of_pos_right h h0;omega
   ·exact h
  refine⟨.slice (some ⟨ax,off,none⟩) k ev,?_,.ak hm hle (fun c ah=>by cases ah) hn g3 c7⟩;simp only[Instr.sliceAt,Instr.slice,run_underlying hu,dZ,ec,rk ar hh (hv _) hle,bV,gx];split<;>simp[h5]
theorem a2F{t e:TypeId}{iA:Option Nat}(hu:P.underlying t=some (.slice e))(aj:shapeOf P e=some iA){aK hi c9:Option Value}(ar:j5 0 aK 0)(hh:j5 0 hi 0)(hm:j5 0 c9 0)(me:c9.isSome=true→hi.isSome=true):
  (Instr.sliceAt t (.slice none 0 0) aK hi c9).run P w= .ok (.slice none 0 0) w:=by
 obtain⟨_,bV,_⟩:=km aj w;cases hm with
 |none=>simp[Instr.sliceAt,Instr.slice,run_underlying hu,rk ar hh,bV]
 |some qm=>
  cases hh with
  |none=>simp at me
  |some sC=>
   have:=Kw (P:=P) (w:=w) (isSlice:=true) (len:=0) (cap:=0) (sC:=sC) (qm:=qm) ar (o 0) (o 0) (o 0);simp only[Instr.sliceAt,Instr.slice,run_underlying hu,dZ,ec,this,bV,gx];simp
theorem a2G{J:Oper}{x:Operand}(ab:J.op= .nilCheck x){c1:Operand→Value}{v:AV}(hx:R w m O B v (c1 x))(h:nilOk v=true):(execOp c1 J).run P w= .ok (.value (c1 x)) w:=by
 generalize hu:c1 x=u at hx;cases hx<;>simp[nilOk] at h<;>simp[execOp,ab,hu]
theorem a2H{b:Bool}{u:Value}(hx:R w m O B (.b b) u):(Op.unary .not u).run P w= .ok (.bool (!b)) w:=by
 obtain rfl:=hx.vs;rfl
theorem a2I{k:IntKind}{n:Int}{u:Value}(hx:R w m O B (.i k n) u):(Op.unary .neg u).run P w= .ok (.int k (k.wrap (0-n))) w:=by
 obtain rfl:=hx.ll;rfl
theorem a2J{s d:TypeId}{k cW:IntKind}(aj:P.underlying s=some (.int cW))(au:P.underlying d=some (.int k)){j:IntKind}{n:Int}{u:Value}(hx:R w m O B (.i j n) u):(convert s d u).run P w= .ok (.int k (wrapN k n)) w:=by
 obtain rfl:=hx.ll;simp[convert,run_underlying aj,run_underlying au,Conv.intToInt,QT]
theorem a2K{s d:TypeId}{cW dt:IntKind}(aj:P.underlying s=some (.int cW))(au:P.underlying d=some (.int .i64)){q j:Nat}{u:Value}(hx:R w m O B (.h4 dt q j) u):∃n,(convert s d u).run P w= .ok (.int .i64 (Int.ofNat n)) w∧R w m O B (.h4 .i64 q j) (.int .i64 (Int.ofNat n)):=by
 cases hx with
 | @h4 _ _ _ _ _ _ n hn bZ=>
 exact⟨n,by simp only[convert,dZ,run_underlying aj,run_underlying au,ec,Conv.intToInt];rw[Q3 (.inr rfl) bZ];rfl,.h4 hn bZ⟩
theorem a2L{t:TypeId}{d:TypeDesc}(hu:P.underlying t=some d)(au:∀ms,d≠ .interface ms)(u:Value):(Instr.makeInterface t u).run P w= .ok (.iface t u) w:=by
 simp only[Instr.makeInterface,dZ,run_underlying hu,ec];cases d<;>first|rfl|exact absurd rfl (au _)
theorem a2M{t Kx:TypeId}{d:TypeDesc}(hu:P.underlying t=some d)(au:∀ms,d≠ .interface ms){z:AV}(bg:zeroOf P t=some z){two:Bool}{x:AV}{u:Value}(hx:R w m O B x u){v:AV}
  (av:assertA x t z two=some v):∃bR,(Instr.typeAssert u Kx t two).run P w= .ok bR w∧R w m O B v bR:=by
 unfold assertA at av;obtain⟨eD,iC,ln,_⟩:=rj bg w;have mP:=ln w m O B;have xj:∀ {a:AV} {b:Value} (c:Bool),R w m O B a b→R w m O B (.bJ [a,.b c]) (.tuple #[b,.bool c]):=fun c h=>R.tX (bz.cons h (bz.cons (.b c) bz.nil));split at av<;>try (cases av;done)
 ·rename_i FM a2 hx;cases hx with
  | @it _ _ _ _ _ bR al=>
   split at av
   ·rename_i he;subst he;cases av;cases two with
    |false=>exact⟨bR,by simp only[Instr.typeAssert,dZ,run_underlying hu,ec];cases d<;>first|exact absurd rfl (au _)|simp,al⟩
    |true=>exact⟨.tuple #[bR,.bool true],by simp only[Instr.typeAssert,dZ,run_underlying hu,ec];cases d<;>first|exact absurd rfl (au _)|simp,xj true al⟩
   ·rename_i he;cases two with
    |false=>cases av
    |true=>
     cases av;exact⟨.tuple #[eD,.bool false],by simp only[Instr.typeAssert,dZ,run_underlying hu,ec];cases d<;>first|exact absurd rfl (au _)|simp[he,iC],xj false mP⟩
 ·rename_i hx;cases hx;cases two with
  |false=>cases av
  |true=>
   cases av;exact⟨.tuple #[eD,.bool false],by simp only[Instr.typeAssert,dZ,run_underlying hu,ec];cases d<;>first|exact absurd rfl (au _)|simp[iC],xj false mP⟩
end
def ji{α β:Type}(r:α→β→Prop):List α→List β→Prop
 |[],[]=>True
 |x::xs,y::aO=>r x y∧ji r xs aO
 |_,_=>False
theorem B1{α β ua:Type}{f:α→Option β}{g:α→ua}{r:β→ua→Prop}(h:∀x y,f x=some y→r y (g x)):∀ {l:List α} {aO:List β},mapOL f l=some aO→ji r aO (l.map g)
 |[],aO,aw=>by simp[mapOL] at aw;subst aw;trivial
 |x::xs,aO,aw=>by
  rw[mapOL] at aw;split at aw
  ·rename_i y gE hx dj;cases aw;exact⟨h x y hx,B1 h dj⟩
  ·cases aw
section
variable {P:Program}{w:World}{m:Nat→Option Nat}{O:Nat→Prop}{B:Nat}
theorem bz.store{c aQ v:List AV}{off:Nat}{arr:Array Value}{us:List Value}(ah:bz w m O B c arr.toList)(av:bz w m O B v us)(h:storeCells c off v=some aQ):bz w m O B aQ (wr arr off us).toList:=by
 obtain⟨hle,rfl⟩:=xg h;have oK:arr.size=c.length:=by have:=ah.1;simpa using this
 have hlen:=av.1;have e:(wr arr off us).toList=arr.toList.take off++(us++arr.toList.drop (off+us.length)):=by
  apply wk;intro i;have:=zl us arr off i (by omega);rw[lM,this];rw[vC];simp only[eL,qd];by_cases ba:i<off
  ·rw[if_neg (by omega),if_pos (by omega),qe ba];simp
  ·rw[if_neg (show ¬i<min off arr.size by omega),vC];by_cases cr:i-min off arr.size<us.length
   ·rw[if_pos cr,if_pos (by omega),show min off arr.size=off by omega]
   ·rw[if_neg cr,if_neg (by omega),lL];rw[lM];congr 1;omega
 rw[e,hlen];exact(ah.take off).append (av.append (ah.drop _))
theorem a2N{c aQ v:List AV}{off:Nat}(ah:∀x∈c,conf none x=true)(av:∀x∈v,conf none x=true)(h:storeCells c off v=some aQ):∀x∈aQ,conf none x=true:=by
 obtain⟨_,rfl⟩:=xg h;intro x hx;rcases dE.1 hx with hx|hx
 ·exact ah x (oy hx)
 ·rcases dE.1 hx with hx|hx
  ·exact av x hx
  ·exact ah x (mw hx)
theorem a2O{c aQ v:List AV}{off:Nat}(h:storeCells c off v=some aQ):aQ.length=c.length:=by
 obtain⟨_,rfl⟩:=xg h;simp;omega
theorem Re:∀(l:List Value) (k off:Nat) (cs:Array Value),(l.zipIdx k).foldl (fun(cs:Array Value) (p:Value×Nat)=>cs.setIfInBounds (off+p.2) p.1) cs=wr cs (off+k) l
 |[],_,_,_=>rfl
 |v::r,k,off,cs=>by
  rw[List.zipIdx_cons,nh,Re r (k+1) off,wr];rfl
theorem Ky{v:AV}{u:Value}(h:R w m O B v u)(av:v.val=true):∀x∈v.cells,conf none x=true:=by
 cases h with
 |ag aj al hf=>exact hf
 |bJ aj al=>simp[AV.val] at av
 |_=>intro x hx;simp only[AV.cells,d_] at hx;subst hx;rfl
theorem a2P(ao:aC→Option AV)(sz:Nat→Nat→Nat)(c:List AV):iR ao sz [] c=some c:=rfl
theorem layParts_cons(ao:aC→Option AV)(sz:Nat→Nat→Nat)(p:Nat×Nat×aC)(ps:List (Nat×Nat×aC))(c:List AV):
  iR ao sz (p::ps) c=match ao p.2.2 with
   |none=>none
   |some v=>cond (Nat.beq v.cells.length p.2.1&&v.val) (match storeCells c (sz p.1 p.2.1) v.cells with|none=>none|some c=>iR ao sz ps c) none:=rfl
theorem B2{place:Nat→Option (Nat×Nat)}{ao:aC→Option AV}{sz:Nat→Nat→Nat}:∀(ps:List (Nat×Nat×aC)) (cy:List (Nat×Value)) (c aQ:List AV) (arr:Array Value),
  ji (fun(p:Nat×Nat×aC) (q:Nat×Value)=>place q.1=some (sz p.1 p.2.1,p.2.1)∧∀v,ao p.2.2=some v→R w m O B v q.2) ps cy→bz w m O B c arr.toList→(∀x∈c,conf none x=true)→iR ao sz ps c=some aQ→
  ∃nn,Instr.fill place arr cy=some nn∧bz w m O B aQ nn.toList∧(∀x∈aQ,conf none x=true)∧aQ.length=c.length
 |[],[],c,aQ,arr,_,ah,hf,h=>by
  rw[a2P] at h;cases h;exact⟨arr,rfl,ah,hf,rfl⟩
 |[],_::_,_,_,_,h,_,_,_=>h.elim
 |_::_,[],_,_,_,h,_,_,_=>h.elim
 |p::ps,q::cy,c,aQ,arr,⟨⟨hp,av⟩,al⟩,ah,hf,h=>by
  rw[layParts_cons] at h;cases he:ao p.2.2 with
  |none=>simp[he] at h
  |some v=>
   simp only[he] at h;cases hb:(Nat.beq v.cells.length p.2.1&&v.val) with
   |false=>simp[hb] at h
   |true=>
    rw[hb,cond_true] at h;simp only[cx] at hb;have hlen:=fm hb.1;have bD:=av v he;cases dp:storeCells c (sz p.1 p.2.1) v.cells with
    |none=>simp[dp] at h
    |some cQ=>
     simp only[dp] at h;have bV:q.2.cells.size=p.2.1:=by have:=bD.cells.1;simp at this;omega
     have Rf:=(xg dp).1;have oK:arr.size=c.length:=by have:=ah.1;simpa using this
     obtain⟨nn,h1,h2,h3,aE⟩:=B2 ps cy cQ aQ (wr arr (sz p.1 p.2.1) q.2.cells.toList) al (ah.store bD.cells dp) (a2N hf (Ky bD hb.2) dp) h;refine⟨nn,?_,h2,h3,by rw[aE,a2O dp]⟩;obtain⟨i,u⟩:=q;simp only[Instr.fill];rw[show place i=some (sz p.1 p.2.1,p.2.1) from hp];simp only at bV ⊢;have fK:(u.cells.size≠p.2.1||decide (sz p.1 p.2.1+u.cells.size > arr.size))=false:=by
      simp[bV];omega
     have Rg:(u.cells.zipIdx.foldl (fun(cs:Array Value) (x:Value×Nat)=>cs.setIfInBounds (sz p.1 p.2.1+x.2) x.1) arr)=wr arr (sz p.1 p.2.1) u.cells.toList:=by
      rw[←Array.foldl_toList,Array.toList_zipIdx,Re];rfl
     have a2Q:¬((u.cells.size≠p.2.1||sz p.1 p.2.1+u.cells.size > arr.size)=true):=by rw[mL];simp[bV];omega
     rw[if_neg a2Q]
     first|(rw[Rg];exact h1)|(simp only[Rg];exact h1)
theorem a2R{fs:Array Field}(h:∀f∈fs.toList,∃i,P.info? f.type=some i)(w:World):
  ∃ps:Array (Nat×Nat),(fs.mapM fun f=>(do pure (f.offset,← sizeOf f.type):Sem (Nat×Nat))).run P w= .ok ps w∧∀(i:Nat) (f:Field) (inf:TypeInfo),fs[i]? =some f→P.info? f.type=some inf→ps[i]? =some (f.offset,inf.size):=by
 have key:∀(l:List Field),(∀f∈l,∃i,P.info? f.type=some i)→∃ps:List (Nat×Nat),(l.mapM fun f=>(do pure (f.offset,← sizeOf f.type):Sem (Nat×Nat))).run P w= .ok ps w∧∀(i:Nat) (f:Field) (inf:TypeInfo),l[i]? =some f→P.info? f.type=some inf→ps[i]? =some (f.offset,inf.size):=by
  intro l
  induction l with
  |nil=>intro _;exact⟨[],by simp,fun i f inf h=>by simp at h⟩
  |cons f l aA=>
   intro h;obtain⟨i,hi⟩:=h f (by simp);obtain⟨ps,h1,h2⟩:=aA (fun g hg=>h g (by simp[hg]));have bV:(sizeOf f.type).run P w= .ok i.size w:=by simp[sizeOf,typeInfo,hi]
   refine⟨(f.offset,i.size)::ps,by simp only[List.mapM_cons,dZ,bV,ec,gx,h1],fun k g inf hg xk=>?_⟩;cases k with
   |zero=>simp at hg;subst hg;rw[hi] at xk;cases xk;rfl
   |succ k=>simp at hg ⊢;exact h2 k g inf hg xk
 obtain⟨ps,h1,h2⟩:=key fs.toList h;refine⟨ps.toArray,?_,fun i f inf hf xk=>by simpa using h2 i f inf (by simpa using hf) xk⟩;rw[OK];simp only[Sem.run_map,h1,ec]
theorem a2S{t:TypeId}{fs:Array Field}(hu:P.underlying t=some (.struct fs))(hi:fs.any (fun f=>(P.info? f.type).isNone)=false){z:List AV}(bg:zeroOf P t=some (.ag z)){ao:aC→Option AV}
  {ps:List (Nat×Nat×aC)} {cy:Array (Nat×Value)} {c:List AV}
  (hp:ji (fun(p:Nat×Nat×aC) (q:Nat×Value)=>(∃ad,fieldOf P t q.1=some (p.1,ad)∧shN ad=p.2.1)∧∀v,ao p.2.2=some v→R w m O B v q.2) ps cy.toList)
  (h:iR ao (fun off _=>off) ps z=some c):∃u,(Instr.build t cy).run P w= .ok u w∧R w m O B (.ag c) u:=by
 have hall:∀f∈fs.toList,∃i,P.info? f.type=some i:=by
  intro f hf;rw[←Array.any_toList,List.any_eq_false] at hi;have:=hi f hf;cases h:P.info? f.type with
  |none=>simp[h] at this
  |some i=>exact⟨i,rfl⟩
 obtain⟨places,pq,FN⟩:=a2R hall w;obtain⟨eD,iC,ln,mP⟩:=rj bg w;obtain⟨gE,rfl,k0,Kz⟩:=(ln w m O B).ql;have mQ:ji (fun(p:Nat×Nat×aC) (q:Nat×Value)=>places[q.1]? =some (p.1,p.2.1)∧∀v,ao p.2.2=some v→R w m O B v q.2) ps cy.toList:=by
  clear h;revert hp;generalize cy.toList=g6
  induction ps generalizing g6 with
  |nil=>cases g6<;>exact id
  |cons p ps aA=>
   cases g6 with
   |nil=>exact id
   |cons q g6=>
    rintro⟨⟨⟨ad,hf,cL⟩,av⟩,al⟩;refine⟨⟨?_,av⟩,aA g6 al⟩;obtain⟨g4,t_,sB,c7,KA,aj,_⟩:=Kv hf;rw[hu] at sB;cases sB;obtain⟨_,_,inf,xk,bV⟩:=km aj w;rw[FN q.1 t_ inf c7 xk,KA,bV,cL]
 obtain⟨nn,h1,h2,h3,_⟩:=B2 ps cy.toList z c gE mQ k0 Kz h;refine⟨.agg nn,?_,by have:=R.xe h2 h3;simpa using this⟩;simp only[Instr.build,dZ,iC,ec,run_underlying hu,Value.cells,pq];simp[h1]
theorem a2T{t e:TypeId}{n:Nat}{ad:Option Nat}(hu:P.underlying t=some (.array n e))(aj:shapeOf P e=some ad){z:List AV}(bg:zeroOf P t=some (.ag z)){ao:aC→Option AV}
  {ps:List (Nat×Nat×aC)} {cy:Array (Nat×Value)} {c:List AV}
  (hp:ji (fun(p:Nat×Nat×aC) (q:Nat×Value)=>(p.1=q.1*shN ad∧p.2.1=shN ad)∧∀v,ao p.2.2=some v→R w m O B v q.2) ps cy.toList)
  (h:iR ao (fun off _=>off) ps z=some c):∃u,(Instr.build t cy).run P w= .ok u w∧R w m O B (.ag c) u:=by
 obtain⟨_,bV,_⟩:=km aj w;obtain⟨eD,iC,ln,mP⟩:=rj bg w;obtain⟨gE,rfl,k0,Kz⟩:=(ln w m O B).ql;have mQ:ji (fun(p:Nat×Nat×aC) (q:Nat×Value)=>(fun i=>some (i*shN ad,shN ad)) q.1=some (p.1,p.2.1)∧∀v,ao p.2.2=some v→R w m O B v q.2) ps cy.toList:=by
  clear h;revert hp;generalize cy.toList=g6
  induction ps generalizing g6 with
  |nil=>cases g6<;>exact id
  |cons p ps aA=>
   cases g6 with
   |nil=>exact id
   |cons q g6=>
    rintro⟨⟨⟨h1,h2⟩,av⟩,al⟩;exact⟨⟨by rw[h1,h2],av⟩,aA g6 al⟩
 obtain⟨nn,h1,h2,h3,_⟩:=B2 (place:=fun i=>some (i*shN ad,shN ad)) (sz:=fun off _=>off) ps cy.toList z c gE mQ k0 Kz h;refine⟨.agg nn,?_,by have:=R.xe h2 h3;simpa using this⟩;simp only[Instr.build,dZ,iC,ec,run_underlying hu,Value.cells,bV];simp[h1]
theorem Rh(z:List AV):fP 0 z=[]:=rfl
theorem Ri(n:Nat)(z:List AV):fP (n+1) z=z++fP n z:=rfl
theorem zq{z:List AV}{gE:List Value}(bg:bz w m O B z gE):∀n,bz w m O B (fP n z) ((List.range (n*gE.length)).map fun i=>gE[i%gE.length]!)
 |0=>by simp[Rh];exact bz.nil
 |n+1=>by
  rw[Ri,ju,tT,qf,List.range_add,gK,eK];have aA:=zq bg n;by_cases h0:gE.length=0
  ·have:gE=[]:=mI h0;subst this;have sD:z=[]:=mI (by have:=bg.1;simpa using this.symm);subst sD;simpa using aA
  ·refine bz.append ?_ ?_
   ·have:((List.range gE.length).map fun i=>gE[i%gE.length]!)=gE:=by
     apply List.ext_getElem
     ·simp
     ·intro i h1 h2;simp only[fQ,Ap];rw[Nat.mod_eq_of_lt h2];simp[h2]
    rw[this];exact bg
   ·have:((fun i=>gE[i%gE.length]!)∘fun x=>gE.length+x)=fun i=>gE[i%gE.length]! :=by
     funext i;simp
    rw[this];exact aA
theorem zr{z:List AV}(bg:∀x∈z,conf none x=true):∀n,∀x∈fP n z,conf none x=true
 |0,x,hx=>by simp[Rh] at hx
 |n+1,x,hx=>by
  rw[Ri] at hx;rcases dE.1 hx with h|h
  ·exact bg x h
  ·exact zr bg n x h
end
section
variable {P:Program}{I:af}{w:World}{m:Nat→Option Nat}{B:Nat}{f:Nat}
theorem a2U(al:Rel P I w m B){t e:TypeId}{ad:Option Nat}(hu:P.underlying t=some (.slice e))(aj:shapeOf P e=some ad){z:AV}(bg:zeroOf P e=some z)(vt:z.cells.length=shN ad){n:Nat}(hn:n*shN ad≤16777216){ao:aC→Option AV}
  {ps:List (Nat×Nat×aC)} {cy:Array (Nat×Value)} {c:List AV}
  (hp:ji (fun(p:Nat×Nat×aC) (q:Nat×Value)=>(p.1=q.1∧p.2.1=shN ad)∧∀v,ao p.2.2=some v→R w m (a_ I m) B v q.2) ps cy.toList)
  (h:iR ao (fun i sz=>i*sz) ps (fP n z.cells)=some c):
  ∃bR an aH,(Instr.buildSlice t n cy).run P w= .ok bR an∧R an aH (a_ (I.push (.cells c)) aH) B (.ak I.next 0 n ad (some n)) bR∧Rel P (I.push (.cells c)) an aH B∧Ext f I w m (I.push (.cells c)) an aH:=by
 obtain⟨_,bV,_⟩:=km aj w;obtain⟨eD,iC,ln,mP⟩:=rj bg w;have k0:=(ln w m (a_ I m) B).cells;have lT:eD.cells.size=shN ad:=by have:=k0.1;simp at this;omega
 have mQ:ji (fun(p:Nat×Nat×aC) (q:Nat×Value)=>(fun i=>some (i*shN ad,shN ad)) q.1=some (p.1*p.2.1,p.2.1)∧∀v,ao p.2.2=some v→R w m (a_ I m) B v q.2) ps cy.toList:=by
  clear h;revert hp;generalize cy.toList=g6
  induction ps generalizing g6 with
  |nil=>cases g6<;>exact id
  |cons p ps aA=>
   cases g6 with
   |nil=>exact id
   |cons q g6=>
    rintro⟨⟨⟨h1,h2⟩,av⟩,al⟩;exact⟨⟨by rw[h1,h2],av⟩,aA g6 al⟩
 have nY:=zq k0 n;have KB:=zr mP n;have sE:eD.cells.toList.length=shN ad:=by simp[lT]
 rw[sE] at nY;obtain⟨nn,h1,h2,h3,aE⟩:=B2 (place:=fun i=>some (i*shN ad,shN ad)) ps cy.toList (fP n z.cells) c ((Array.range (n*shN ad)).map fun i=>eD.cells.toList[i%shN ad]!) mQ
  (by simpa [wm] using nY) KB h
 obtain⟨an,aH,r1,r2,nU,tY,KC⟩:=FG al f (el:=e) h2 h3;have zs:nn.size=n*shN ad:=by
  have aP:=h2.1;have a0:=nY.1;simp at aP a0;omega
 refine⟨.slice (some ⟨w.heap.size,0,none⟩) n n,an,aH,?_,.ak r2 (o _) (fun c ah=>by cases ah;rfl) (n:=nn.size) (by unfold dU;rw[nU]) (by omega) (fun h=>by cases h),tY,KC⟩;have KD:¬(n*shN ad > 2^24):=by omega
 simp only[Instr.buildSlice,dZ,run_underlying hu,ec,bV];rw[if_neg KD];by_cases h0:n*shN ad=0
 ·have aM:((Array.range (n*shN ad)).map fun i=>eD.cells.toList[i%shN ad]!)= #[]:=by rw[h0];apply lV;simp
  rw[aM] at h1;rw[if_pos h0];simp only[dZ,gx,ec,h0];have dn:((Array.range 0).map fun x=>(#[]:Array Value)[x%(#[]:Array Value).size]!)= #[]:=by apply lV;simp
  rw[dn,h1];simp[r1]
 ·have aM:((Array.range (n*shN ad)).map fun i=>eD.cells.toList[i%shN ad]!)=((Array.range (n*shN ad)).map fun i=>eD.cells[i%eD.cells.size]!):=by
   apply lV;simp only[sm,wm];apply gl;intro a _;rw[lT,I3,pa];simp
  rw[aM] at h1;simp only[h0,if_false,dZ,iC,ec,gx];simp only[h1];simp[r1]
end
section
variable {P:Program}{w:World}{m:Nat→Option Nat}{O:Nat→Prop}{B:Nat}
theorem KE{ad fp:Option Nat}{v:AV}(h:conf ad v=true)(h':conf fp v=true):ad=fp:=by
 cases ad<;>cases fp<;>cases v<;>simp[conf] at h h'<;>first|rfl|(subst h;simp_all)
theorem a2V(ad:Option Nat)(c:List AV):elems ad 0 c=some []:=rfl
theorem elems_succ(ad:Option Nat)(n:Nat)(c:List AV):elems ad (n+1) c=match fI ad c with
 |none=>none
 |some v=>match elems ad n (c.drop (shN ad)) with|none=>none|some a3=>some (v::a3):=rfl
theorem zt{ad:Option Nat}:∀ {n:Nat} {c:List AV} {a3:List AV},(∀x∈c,conf none x=true)→elems ad n c=some a3→
  a3.length=n∧a3.flatMap AV.cells=c.take (n*shN ad)∧n*shN ad≤c.length∧∀v∈a3,conf ad v=true
 |0,c,a3,_,h=>by rw[a2V] at h;cases h;simp
 |n+1,c,a3,hf,h=>by
  rw[elems_succ] at h;split at h<;>try (cases h;done)
  rename_i v av;split at h<;>cases h;rename_i sy kG;obtain⟨h1,h2,h3,aE⟩:=zt (fun x hx=>hf x (mw hx)) kG;obtain⟨ba,cr⟩:=Q7 av hf;refine⟨by simp[h1],?_,?_,?_⟩
  ·rw[eG,h2,ba,ju,tT,qf (n*shN ad),List.take_add]
  ·simp at h3;rw[ju];omega
  ·intro a2 ub;rcases cH.1 ub with rfl|de
   ·exact a2o av hf
   ·exact aE a2 de
theorem Rj{xs:List AV}(h:∀v∈xs,∀x∈v.cells,conf none x=true):∀x∈xs.flatMap AV.cells,conf none x=true:=by
 intro x hx;obtain⟨v,av,hx⟩:=gP.1 hx;exact h v av x hx
theorem qn{ad:Option Nat}{v:AV}(h:conf ad v=true):v.cells.length=shN ad:=by
 cases ad with
 |none=>cases v<;>simp[conf] at h<;>rfl
 |some n=>cases v<;>simp[conf] at h;exact h
theorem KF{ad:Option Nat}{ax:Nat}:∀ {xs:List AV} {off:Nat} (aO:Nat→Nat→Value),(∀i (h:i<xs.length),conf ad (xs[i])=true)→
  (∀i (h:i<xs.length),∀j,j<(xs[i]).cells.length→w.cell? ⟨ax,off+i*shN ad+j,none⟩=some (aO i j))→
  (∀i (h:i<xs.length),∀j (az:j<(xs[i]).cells.length),R w (fun _=>none) O B ((xs[i]).cells[j]) (aO i j))→
  ∃us,bz w m O B (xs.flatMap AV.cells) us∧us.length=xs.length*shN ad∧∀j u,us[j]? =some u→w.cell? ⟨ax,off+j,none⟩=some u
 |[],off,aO,_,_,_=>⟨[],bz.nil,by simp,fun j u h=>by simp at h⟩
 |x::xs,off,aO,aj,ah,al=>by
  have hx:=aj 0 (by simp);have hlen:=qn hx;simp only[mJ] at hlen;obtain⟨us,h1,h2,h3⟩:=KF (off:=off+shN ad) (xs:=xs) (fun i j=>aO (i+1) j) (fun i h=>aj (i+1) (by simpa using h))
   (fun i h j az=>by have:=ah (i+1) (by simpa using h) j (by simpa using az);rw[←this];congr 2;rw[ju];omega)
   (fun i h j az=>al (i+1) (by simpa using h) j az)
  refine⟨(List.range x.cells.length).map (aO 0)++us,?_,?_,?_⟩
  ·rw[eG];refine bz.append ⟨by simp,fun i aP a0=>?_⟩ h1;have:=(al 0 (by simp) i (by simpa using aP)).up (m:=m);simpa using this
  ·simp[h2,hlen,ju];omega
  ·intro j u hu;rw[vC] at hu;simp only[aJ,oz] at hu;split at hu
   ·rename_i az;have:=ah 0 (by simp) j (by simpa using az);simp[az] at hu;subst hu;simpa using this
   ·rename_i az;have:=h3 _ u hu;rw[←this];congr 2;omega
end
section
variable {P:Program}{I:af}{w:World}{m:Nat→Option Nat}{B:Nat}{f:Nat}
theorem B3(al:Rel P I w m B){x:AV}{u:Value}{xs:List AV}{ad:Option Nat}(hx:R w m (a_ I m) B x u)(h:readList I x=some xs)(ah:∀a∈xs,conf ad a=true):
  ∃base c us,u= .slice base xs.length c∧xs.length≤c∧bz w m (a_ I m) B (xs.flatMap AV.cells) us∧us.length=xs.length*shN ad∧(∀y∈xs.flatMap AV.cells,conf none y=true)∧
   (match base with|none=>xs=[]∧c=0|some a=>(xs≠[]→a.spot=none)∧(∀j v,us[j]? =some v→w.cell? (a.add j)=some v)∧(xs≠[]→a.block<w.heap.size)):=by
 unfold readList at h;split at h
 ·cases h;cases hx;exact⟨none,0,[],rfl,o _,bz.nil,by simp,fun y aw=>by simp at aw,rfl,rfl⟩
 ·rename_i a2W fp a2X;cases h;cases hx with
  |ma=>exact⟨none,0,[],rfl,o _,bz.nil,by simp,fun y aw=>by simp at aw,rfl,rfl⟩
  | @a7 _ _ _ _ _ _ ax off ev sp aO db aj jj jx ar hf eU=>
   by_cases he:xs=[]
   ·subst he;exact⟨some ⟨ax,off,sp⟩,ev,[],rfl,by simp,bz.nil,by simp,fun y aw=>by simp at aw,fun h=>absurd rfl h,fun j v h=>by simp at h,fun h=>absurd rfl h⟩
   ·have:fp=ad:=by
     have h0:0<xs.length:=xA.2 he;exact KE (aj 0 h0) (ah _ (aS h0))
    subst this;obtain⟨us,h1,h2,h3⟩:=KF aO aj jj jx;obtain rfl:=eU he;exact⟨some ⟨ax,off,none⟩,ev,us,rfl,ar,h1,h2,Rj hf,fun _=>rfl,fun j v av=>by rw[h5];exact h3 j v av,fun bx=>(db bx).2.1⟩
 ·rename_i a2W fp a2X;cases h;cases hx with
  | @ix _ _ _ _ _ _ a n hn he hx=>
   subst hn;cases hx with
   | @a7 _ _ _ _ _ _ ax off ev sp aO db aj jj jx ar hf eU=>
    have:fp=ad:=by
     have h0:0<xs.length:=xA.2 he;exact KE (aj 0 h0) (ah _ (aS h0))
    subst this;obtain⟨us,h1,h2,h3⟩:=KF aO aj jj jx;obtain rfl:=eU he;exact⟨some ⟨ax,off,none⟩,xs.length,us,rfl,ar,h1,h2,Rj hf,fun _=>rfl,fun j v av=>by rw[h5];exact h3 j v av,fun bx=>(db bx).2.1⟩
 ·rename_i id off len fp cap;split at h<;>try (cases h;done)
  rename_i c hg;cases hx with
  | @ak _ _ _ _ _ _ ax n ev _ _ hm ar gw hn g3=>
   obtain⟨arr,el,aV,hh,jj,oK,bg,j4⟩:=al.cells hm hg;obtain⟨h1,h2,h3,aE⟩:=zt (fun x hx=>j4 x (mw hx)) h;have a2Y:xs≠[]→fp=ad:=fun he=>by
    have h0:0<xs.length:=xA.2 he;exact KE (aE _ (aS h0)) (ah _ (aS h0))
   have hmul:len*shN fp=len*shN ad:=by
    by_cases he:xs=[]
    ·subst he;simp at h1;subst h1;simp
    ·rw[a2Y he]
   refine⟨some ⟨ax,off,none⟩,ev,((arr.toList.take c.length).drop off).take (len*shN ad),by rw[h1],by omega,?_,?_,?_,fun _=>rfl,?_,fun _=>zm hh⟩
   ·rw[h2,hmul];exact(jj.drop off).take _
   ·simp at h3 ⊢;rw[h1];omega
   ·rw[h2];exact fun y aw=>j4 y (mw (oy aw))
   ·intro j v av;rw[h5,xf hh];obtain⟨az,ub⟩:=ki.1 av;simp at az;rw[←ub];simp
 ·cases h
theorem a2Z(l:List Nat):(l.map fun c=>AV.i .u8 (Int.ofNat c)).flatMap AV.cells=l.map fun c=>AV.i .u8 (Int.ofNat c):=by
 induction l with
 |nil=>rfl
 |cons a l aA=>rw[jK,eG,aA];rfl
theorem a3a(al:Rel P I w m B){x:AV}{u:Value}{xs:List AV}{ad:Option Nat}{oN:TypeId}(aD:(∃eb,P.underlying oN=some (.slice eb))∨P.underlying oN=some .string)(hx:R w m (a_ I m) B x u)
  (h:newOf I x=some xs) (ah:∀a∈xs,conf ad a=true):
  ∃us,bz w m (a_ I m) B (xs.flatMap AV.cells) us∧us.length=xs.length*shN ad∧(∀y∈xs.flatMap AV.cells,conf none y=true)∧Src P (shN ad) oN u xs.length us w:=by
 have one:∀ {us:List Value},bz w m (a_ I m) B (xs.flatMap AV.cells) us→(∀y∈xs.flatMap AV.cells,conf none y=true)→∀u∈us,u.oneCell'=true:=fun {us} h1 h2 u hu=>by
  obtain⟨i,hi,rfl⟩:=gm hu;have cS:i<(xs.flatMap AV.cells).length:=by rw[←h1.1];exact hi
  exact(h1.2 i cS hi).Kq (h2 _ (aS cS))
 unfold newOf at h;split at h
 ·rename_i l;cases h;obtain⟨rfl,ar⟩:=hx.pn;have zu:(l.map fun c=>AV.i .u8 (Int.ofNat c)).flatMap AV.cells=l.map fun c=>AV.i .u8 (Int.ofNat c):=a2Z l;have bV:l≠[]→shN ad=1:=fun bx=>by
   cases l with
   |nil=>exact absurd rfl bx
   |cons a l=>
    have:=ah (.i .u8 (Int.ofNat a)) (by simp);cases ad with
    |none=>rfl
    |some n=>simp[conf] at this
  have FO:byteCells (strOf l)=l.map fun c=>Value.int .u8 (Int.ofNat c):=by
   unfold byteCells;rw[QW,eK];apply gl;intro c FP;have:c<256:=ar c FP;simp;omega
  have zv:bz w m (a_ I m) B ((l.map fun c=>AV.i .u8 (Int.ofNat c)).flatMap AV.cells) (byteCells (strOf l)):=by
   rw[zu,FO];exact⟨by simp,fun i h1 h2=>by simpa using R.i _ _⟩
  have Rk:∀y∈(l.map fun c=>AV.i .u8 (Int.ofNat c)).flatMap AV.cells,conf none y=true:=by
   rw[zu];intro y aw;obtain⟨c,_,rfl⟩:=bQ.1 aw;rfl
  have hlen:(byteCells (strOf l)).length=(l.map fun c=>AV.i .u8 (Int.ofNat c)).length*shN ad:=by
   rw[FO];by_cases he:l=[]
   ·subst he;simp
   ·rw[bV he];simp
  refine⟨byteCells (strOf l),zv,hlen,Rk,⟨aD,fun an=>?_,?_,?_,hlen,one zv Rk⟩⟩
  ·simp[Builtin.lenOf,vr]
  ·have:(l.map fun c=>AV.i .u8 (Int.ofNat c)).length=(strOf l).size:=by simp[vr]
   rw[this];have:=firstCells_string (P:=P) (strOf l) w;simpa [Builtin.firstCells] using this
  ·have:(l.map fun c=>AV.i .u8 (Int.ofNat c)).length=(strOf l).size:=by simp[vr]
   rw[this];have:=firstCells_string (P:=P) (strOf l) w.drew;simpa [Builtin.firstCells] using this
 ·obtain⟨base,c,us,rfl,hle,h1,h2,h3,aE⟩:=B3 al hx h ah;refine⟨us,h1,h2,h3,⟨aD,fun _=>rfl,?_,?_,h2,one h1 h3⟩⟩
  ·cases base with
   |none=>obtain⟨rfl,_⟩:=aE;have:us=[]:=mI (by simpa using h2);subst this;exact run_firstCells_none w _ _ _ _
   |some a=>exact run_firstCells_some w _ _ a _ _ us h2 aE.2.1
  ·cases base with
   |none=>obtain⟨rfl,_⟩:=aE;have:us=[]:=mI (by simpa using h2);subst this;exact run_firstCells_none w.drew _ _ _ _
   |some a=>exact run_firstCells_some w.drew _ _ a _ _ us h2 (by simpa using aE.2.1)
theorem FQ(al:Rel P I w m B)(f:Nat){t oN ty e:TypeId}{i:TypeInfo}{z:Value}{ad:Option Nat}(ht:P.underlying t=some (.slice e))(hi:P.info? e=some i)(bV:i.size=shN ad)(bg:i.zero=some z)(lT:z.cells.size=shN ad)
  (qo:i.bytes≠0) {base:Option Addr} {jM qp n:Nat} {vu nZ:List AV} {olds news:List Value} {x:Value} (ab:bz w m (a_ I m) B vu olds) (B4:olds.length=jM*shN ad) (a3b:∀y∈vu,conf none y=true)
  (j4:(Builtin.firstCells (shN ad) jM (.slice base jM qp)).run P w.drew= .ok olds.toArray w.drew)
  (hn:bz w m (a_ I m) B nZ news) (vv:news.length=n*shN ad) (a3c:∀y∈nZ,conf none y=true) (aj:Src P (shN ad) oN x n news w) (hg:qp<jM+n)
  (hb:(3*(jM+n)+2000)*i.bytes≤281474976710656):
  ∃u an aH,(Builtin.append_ #[t,oN] ty #[.slice base jM qp,x]).run P w= .ok u an∧R an aH (a_ (I.push (.cells (vu++nZ))) aH) B (.ak I.next 0 (jM+n) ad none) u∧
   Rel P (I.push (.cells (vu++nZ))) an aH B∧Ext f I w m (I.push (.cells (vu++nZ))) an aH:=by
 have rn:1≤i.bytes:=OL.2 qo;have po:(3*(jM+n)+2000)*1≤(3*(jM+n)+2000)*i.bytes:=OM _ rn;have vw:2*((jM+n)*i.bytes)≤(3*(jM+n)+2000)*i.bytes:=by
  rw[←Nat.mul_assoc];exact qa _ (by omega)
 have b8:=run_append_grow_src (P:=P) w t oN ty e i z ht hi bg base jM qp olds (by rw[bV];exact j4) x n news (by rw[bV];exact aj) hg (by omega) (growslice_fits hg (by omega));have iD:=grownCap_ge w (jM+n) qp e;have eZ:=ab.1;have KG:=hn.1;have a3d:vu.length=jM*shN ad:=by omega
 have a3e:nZ.length=n*shN ad:=by omega
 have uc:((olds++news).toArray++Builtin.zeroCells z.cells (grownCap w (jM+n) qp e-(jM+n))).size=grownCap w (jM+n) qp e*shN ad:=by
  simp only[Qj,List.size_toArray,size_zeroCells,lT,cR,B4,vv,← ju]
  congr 1;omega
 obtain⟨h1,h2⟩:=al.alloc f (w.drew.alloc (.cells ((olds++news).toArray++Builtin.zeroCells z.cells (grownCap w (jM+n) qp e-(jM+n))) e)) (.cells (vu++nZ)) _ rfl rfl rfl rfl rfl
  (.cells (by rw[uc,cR,a3d,a3e,← ju];exact qa _ iD) (fun j h h'=>by
   have az:j<(olds++news).length:=by simp only[cR] at h ⊢;omega
   have:=(ab.append hn).2 j h az;rw[Qk (by simpa using az)];simpa using this) (fun j _=>by simp) (fun y aw=>(dE.1 aw).elim (a3b y) (a3c y)))
 refine⟨_,_,_,b8,.ak (hB _ _ _) iD (fun c ah=>by cases ah) (n:=grownCap w (jM+n) qp e*shN ad) ?_ (by omega) (fun _=>by omega),h1,h2⟩;have:(w.drew.alloc (.cells ((olds++news).toArray++Builtin.zeroCells z.cells (grownCap w (jM+n) qp e-(jM+n))) e)).heap[w.heap.size]? =some (.cells ((olds++news).toArray++Builtin.zeroCells z.cells (grownCap w (jM+n) qp e-(jM+n))) e):=by
  exact heap_alloc_new w.drew _
 unfold dU;rw[this];simp only[uc]
end
theorem mg{α:Type}{p:α→Bool}:∀ {l:List α},dw p l=true→∀x∈l,p x=true
 |[],_,x,hx=>by simp at hx
 |y::l,h,x,hx=>by
  have h':cond (p y) (dw p l) false=true:=h;cases aw:p y with
  |false=>rw[aw] at h';cases h'
  |true=>
   rw[aw] at h';rcases cH.1 hx with rfl|hx
   ·exact aw
   ·exact mg h' x hx
theorem a3f{b:Bool}(h:¬b=true):b=false:=by cases b<;>simp at h<;>rfl
section
variable {P:Program}{I:af}{w:World}{m:Nat→Option Nat}{B:Nat}{f:Nat}
theorem a3g(al:Rel P I w m B){t oN ty e:TypeId}{i:TypeInfo}{vx:Value}{ad:Option Nat}(ht:P.underlying t=some (.slice e))(hi:P.info? e=some i)(bV:i.size=shN ad)(bg:i.zero=some vx)(lT:vx.cells.size=shN ad)
  (qo:i.bytes≠0) (aD:(∃eb,P.underlying oN=some (.slice eb))∨P.underlying oN=some .string) {s x:AV} {us B5:Value} (aj:R w m (a_ I m) B s us) (hx:R w m (a_ I m) B x B5)
  {v:AV} {aq:af} (h:appendO f I ad i.bytes s x=some (v,aq)):
  ∃u an aH,(Builtin.append_ #[t,oN] ty #[us,B5]).run P w= .ok u an∧R an aH (a_ aq aH) B v u∧Rel P aq an aH B∧Ext f I w m aq an aH:=by
 unfold appendO at h;split at h<;>try (cases h;done)
 rename_i old new hold pj;cases hb:(dw (conf ad) old&&dw (conf ad) new&&Nat.ble ((3*(old.length+new.length)+2000)*i.bytes) 281474976710656) with
 |false=>rw[hb] at h;cases h
 |true=>
  rw[hb,cond_true] at h;simp only[cx] at hb;obtain⟨⟨rn,po⟩,vw⟩:=hb;have qq:=eV vw;obtain⟨news,np,qs,mR,xl⟩:=a3a al aD hx pj (mg po);obtain⟨base,c,olds,rfl,eH,pr,nq,FR,KH⟩:=B3 al aj hold (mg rn);have j4:(Builtin.firstCells (shN ad) old.length (.slice base old.length c)).run P w.drew= .ok olds.toArray w.drew:=by
   cases base with
   |none=>obtain⟨rfl,_⟩:=KH;have:olds=[]:=mI (by simpa using nq);subst this;exact run_firstCells_none w.drew _ _ _ _
   |some a=>exact run_firstCells_some w.drew _ _ a _ _ olds nq (by simpa using KH.2.1)
  split at h
  ·-- nothing
   cases h;have vv:news=[]:=mI (by simpa using qs);subst vv;exact⟨_,w,m,run_append_nothing (P:=P) w t oN ty e i ht hi base old.length c eH B5 (by rw[bV];exact xl),aj,al,Ext.refl _ _ _ _⟩
  ·rename_i Rl Rm;generalize Rn:Rl::Rm=new at *;have B6:0<new.length:=by rw[←Rn];simp
   clear Rn Rl Rm;split at h<;>try (cases h;done)
   ·-- a row of qg store
    rename_i id off len fp cap;split at h<;>try (cases h;done)
    rename_i cL;subst cL;have hl:=aj;generalize jk:Value.slice base old.length c=us at aj;cases aj with
    | @ak _ _ _ _ _ _ ax vy ev _ _ hm ar gw hn g3 KI=>
    cases jk;have zw:∀bw,I.get id=some (.cells bw)→live I id:=fun bw hg=>⟨_,hg,rfl⟩
    obtain⟨bw,hg⟩:∃bw,I.get id=some (.cells bw):=by
     simp only[readList] at hold;split at hold
     ·exact⟨_,by assumption⟩
     ·cases hold
    obtain⟨arr,el,aV,hh,jj,oK,KJ,a3h⟩:=al.cells hm hg;have Ro:arr.size=vy:=by unfold dU at hn;rw[hh] at hn;simpa using hn
    have FT:old.flatMap AV.cells=(bw.drop off).take (old.length*shN fp)∧old.length*shN fp≤(bw.drop off).length:=by
     simp only[readList,hg] at hold;obtain⟨aP,a0,bF,_⟩:=zt (fun x hx=>a3h x (mw hx)) hold;exact⟨a0,bF⟩
    have room:old.length+new.length≤c→(Builtin.append_ #[t,oN] ty #[.slice (some ⟨ax,off,none⟩) old.length c,B5]).run P w= .ok (.slice (some ⟨ax,off,none⟩) (old.length+new.length) c) (w.setCells ax (off+old.length*shN fp) news):=fun qt=>by
     have hmul:=qa (shN fp) qt;rw[ju] at hmul;have:=run_append_room_src (P:=P) w t oN ty e i ht hi ax off old.length c B5 new.length news (by rw[bV];exact xl) qt
      (fun j az=>by rw[bV,xf hh,nN (by omega)];rfl)
      (fun j az=>by rw[bV,FF hh];exact KJ _ (by omega))
     rw[bV] at this;exact this
    split at h
    ·rename_i k1;obtain rfl:=gw k1 rfl;cases qt:Nat.ble (old.length+new.length) c with
     |true=>
      rw[qt,cond_true] at h;have KK:=eV qt;split at h<;>try (cases h;done)
      rename_i c7;simp only[hg] at h;split at h<;>cases h;rename_i cQ dp;obtain⟨an,h2,h3,aE⟩:=Kr (f:=f) al (by simpa [gg] using c7) hm hg dp np mR;have h1:∀u∈news,u.oneCell'=true:=xl.one;have hmul:=qa (shN fp) KK;rw[ju] at hmul;have b8:=run_storeCells_cells (P:=P) ax (off+old.length*shN fp) news 0 w
       (fun j az=>by rw[xf hh,nN (by omega)];rfl)
       (fun j az=>by rw[FF hh];exact KJ _ (by omega)) h1
      have hw:an=w.setCells ax (off+old.length*shN fp) news:=by
       rw[h2] at b8;simpa using b8
      refine⟨_,an,m,by rw[hw];exact room KK,?_,h3,aE⟩;exact .ak (aE.mono _ _ hm) KK (fun c ah=>by cases ah;rfl) (aE.fJ _ _ hn) g3 (fun h=>by cases h)
     |false=>
      rw[qt,cond_false] at h;cases h;have a3i:c<old.length+new.length:=by
       rcases mK c (old.length+new.length) with h|h
       ·exact h
       ·rw[eu h] at qt;cases qt
      exact FQ al f ht hi bV bg lT qo pr nq FR j4 np qs mR xl a3i qq
    ·split at h<;>try (cases h;done)
     rename_i c7;have sF:f≤id:=by simpa [gg] using c7
     split at h<;>cases h;rename_i KA;obtain rfl:=fm KA;by_cases qt:old.length+new.length≤c
     ·have hmul:=qa (shN fp) qt;rw[ju] at hmul;obtain⟨r1,r2,nU,tY⟩:=FC news w ax (0+old.length*shN fp);have sA:=FB news w ax (0+old.length*shN fp) arr el aV hh;have FD:(old.flatMap AV.cells).length=old.length*shN fp:=by have:=pr.1;omega
      have xm:(new.flatMap AV.cells).length=new.length*shN fp:=by have:=np.1;omega
      have eM:=al.move sF hm (zw _ hg) (w.setCells ax (0+old.length*shN fp) news) (.cells (old.flatMap AV.cells++new.flatMap AV.cells)) rfl r1 (fun b hb=>heap_setCells_other news w ax _ b hb) (f:=f)
       (fun n hn=>by unfold dU at hn ⊢;rw[hh] at hn;rw[sA];simpa [sx] using hn) r2 nU tY ⟨_,sA,?_⟩
      ·obtain⟨h3,aE⟩:=eM;exact⟨_,_,_,room qt,.ak (hB _ _ _) qt (fun c ah=>by cases ah) (aE.fJ _ _ hn) g3 KI,h3,aE⟩
      ·refine .cells (by rw[sx,cR,FD,xm];omega) (fun j h h'=>?_) (by rw[sx];exact KJ) (fun y aw=>(dE.1 aw).elim (FR y) (mR y));rw[cR] at h;have xn:=zl news arr (0+old.length*shN fp) j (by omega);rw[nN h'] at xn;by_cases az:j<(old.flatMap AV.cells).length
       ·rw[jn az];rw[if_neg (by omega)] at xn;have a3j:=pr.2 j az (by rw[pr.1];exact az);have KL:arr[j]? =some (olds[j]'(by rw[pr.1];exact az)):=by
         have:=KH.2.1 j _ (a9 (by rw[pr.1];exact az));rw[h5,xf hh] at this;simpa using this
        rw[KL] at xn;rw[ia xn];exact a3j
       ·rw[jG (by omega)];rw[if_pos (by omega)] at xn;have ud:j-(0+old.length*shN fp)=j-(old.flatMap AV.cells).length:=by omega
        rw[ud,a9 (by omega)] at xn;rw[ia xn];exact np.2 _ (by omega) _
     ·have a3k:=al.fq (f:=f) sF hm (zw _ hg) w .dead rfl (fun _ _=>rfl) (fun _ h=>h) rfl rfl rfl (fun h=>by cases h);obtain⟨lo,ho⟩:=a3k;have xo:I.next=(I.set id .dead).next:=rfl;have a3l:=FQ (ty:=ty) lo f ht hi bV bg lT qo (pr.ext ho al) nq FR j4 (np.ext ho al) qs mR xl (by omega) qq;obtain⟨u,an,aH,bM,b4,dy,e0⟩:=a3l;exact⟨u,an,aH,bM,b4,dy,ho.trans al e0⟩
   ·cases h;have a3m:old=[]:=by simp only[readList] at hold;cases hold;rfl
    subst a3m;cases aj;have h0:olds=[]:=mI (by simpa using nq);subst h0;have:=FQ (ty:=ty) al f ht hi bV bg lT qo (vu:=[]) (olds:=[]) (jM:=0) (qp:=0) bz.nil (by simp) (fun y aw=>by simp at aw) j4 np qs mR xl (by omega) (by simpa using qq);simpa using this
   ·split at h<;>try (cases h;done)
    rename_i cL;subst cL;cases h;generalize jk:Value.slice base old.length c=us at aj;cases aj with
    |ix hn bx hx=>
    cases jk;exact FQ al f ht hi bV bg lT qo pr nq FR j4 np qs mR xl (by omega) qq
theorem FU{b:Nat}{J:Obj}(h:w.heap[b]? =some J)(ah:∀c e z,J≠ .cells c e z):(getObj b).run P w= .ok J w:=by
 simp only[getObj,Sem.run,h]
theorem Rp{b:Nat}{J:Obj}(b7:Obj)(h:w.heap[b]? =some J)(ah:∀c e z,J≠ .cells c e z):(setObj b b7).run P w= .ok () {w with heap:=w.heap.setIfInBounds b b7}:=by
 simp only[setObj,Sem.run,h]
theorem a3n{t ty n e:TypeId}(ht:P.underlying t=some (.array n e))(u:Value):(Builtin.len_ #[t] ty #[u]).run P w= .ok (.int .i64 (Int.ofNat n)) w:=by
 simp[Builtin.len_,run_underlying ht,goInt]
theorem KM(al:Rel P I w m B){t ty:TypeId}{k:Nat}(ht:(k=1∧∃e,P.underlying t=some (.slice e))∨(k=0∧P.underlying t=some .string)∨(k=2∧∃a e,P.underlying t=some (.map a e))){x:AV}{n:Nat}{u:Value}(hx:R w m (a_ I m) B x u)
  (h:lenA I k x=some n):(Builtin.len_ #[t] ty #[u]).run P w= .ok (.int .i64 (Int.ofNat n)) w:=by
 unfold lenA at h;split at h
 ·cases h;obtain⟨rfl,_⟩:=hx.pn;rcases ht with⟨h,_⟩|⟨_,ht⟩|⟨h,_⟩<;>first|(cases h;done)|skip
  simp[Builtin.len_,run_underlying ht,goInt,vr]
 ·cases h;cases hx;rcases ht with⟨_,e,ht⟩|⟨h,_⟩|⟨h,_⟩<;>first|(cases h;done)|skip
  simp[Builtin.len_,run_underlying ht,goInt]
 ·cases h;cases hx;rcases ht with⟨_,e,ht⟩|⟨h,_⟩|⟨h,_⟩<;>first|(cases h;done)|skip
  simp[Builtin.len_,run_underlying ht,goInt]
 ·cases h;rcases ht with⟨_,e,ht⟩|⟨h,_⟩|⟨h,_⟩<;>first|(cases h;done)|skip
  cases hx<;>simp[Builtin.len_,run_underlying ht,goInt]
 ·cases h;cases hx;rcases ht with⟨h,_⟩|⟨h,_⟩|⟨_,a,e,ht⟩<;>first|(cases h;done)|skip
  simp[Builtin.len_,run_underlying ht,goInt]
 ·split at h<;>cases h;rename_i es aL hg;obtain⟨ax,hm,rfl⟩:=hx.FH;obtain⟨b7,h1,h2⟩:=al.obj _ _ _ hm hg rfl;rcases ht with⟨h,_⟩|⟨h,_⟩|⟨_,a,e,ht⟩<;>first|(cases h;done)|skip
  cases h2 with
  |map ar _=>simp[Builtin.len_,run_underlying ht,goInt,FU h1 (fun _ _ _ h=>by cases h),ar]
 ·cases h
theorem KN{k:Nat}{x:AV}{r:bq}(h:lenU I k x=some r):(k=0∧∃ex,x= .gD ex∧r= .hy [(.iQ true,I),(.iQ false,I)])∨(k=1∧∃J i,x= .g1 J i∧r= .val (.fo 0) I):=by
 unfold lenU at h;split at h<;>cases h
 ·exact .inl ⟨rfl,_,rfl,rfl⟩
 ·exact .inr ⟨rfl,_,_,rfl,rfl⟩
theorem FV{k:Nat}{x:AV}{r:bq}(h:lenU I k x=some r):(∃l,r= .hy l)∨(r= .val (.fo 0) I∧∀dD,lenA dD k x=none∧lenU dD k x=some (.val (.fo 0) dD)):=by
 rcases KN h with⟨_,_,_,e⟩|⟨rfl,_,_,rfl,e⟩
 ·exact .inl ⟨_,e⟩
 ·exact .inr ⟨e,fun _=>⟨rfl,rfl⟩⟩
theorem a3o{t ty e:TypeId}(ht:P.underlying t=some (.slice e)){x:AV}{n:Nat}{u:Value}{O:Nat→Prop}(hx:R w m O B x u)
  (h:capA x=some n):(Builtin.cap_ #[t] ty #[u]).run P w= .ok (.int .i64 (Int.ofNat n)) w:=by
 unfold capA at h;split at h<;>cases h
 ·cases hx;simp[Builtin.cap_,run_underlying ht,goInt]
 ·cases hx with
  |ak h ar ah hn g3=>
   obtain rfl:=ah _ rfl;simp[Builtin.cap_,run_underlying ht,goInt]
theorem KO{x:AV}{r:bq}(h:capO f I x=some r):∃id off len ad c,x= .ak id off len ad none∧f≤id∧I.get id=some (.cells c)∧c.length=off+len*shN ad∧r= .hy ((List.range 12).map (fun k=>(AV.i .i64 (Int.ofNat (len+k)),I.set id (.eT c (k*shN ad))))++[(AV.fo (len+12),I.set id (.eT c (12*shN ad)))]):=by
 unfold capO at h;split at h<;>try (cases h;done)
 rename_i id off len ad;cases h1:Nat.blt id f with
 |true=>rw[h1] at h;cases h
 |false=>
  rw[h1,cond_false] at h;split at h<;>try (cases h;done)
  rename_i c hg;cases h2:Nat.beq c.length (off+len*shN ad) with
  |false=>rw[h2] at h;cases h
  |true=>
   rw[h2,cond_true] at h;cases h;exact⟨id,off,len,ad,c,rfl,Nat.le_of_not_lt (fun h=>by rw[show Nat.blt id f=true from eu h] at h1;cases h1),hg,fm h2,rfl⟩
theorem a3p(al:Rel P I w m B){t ty e:TypeId}(ht:P.underlying t=some (.slice e)){x:AV}{u:Value}(hx:R w m (a_ I m) B x u){l:List (AV×af)}(h:capO f I x=some (.hy l)):
  ∃p∈l,∃bR an aH,(Builtin.cap_ #[t] ty #[u]).run P w= .ok bR an∧R an aH (a_ p.2 aH) B p.1 bR∧Rel P p.2 an aH B∧Ext f I w m p.2 an aH:=by
 obtain⟨id,off,len,ad,c,rfl,c7,hg,eZ,aM⟩:=KO h;injection aM with aM
 subst aM;cases hx with
 | @ak _ _ _ _ _ _ ax n ev _ _ hm ar gw hn g3 KI=>
  obtain⟨arr,el,aV,hh,jj,oK,bg,j4⟩:=al.cells hm hg;have ie:arr.size=n:=by unfold dU at hn;rw[hh] at hn;simpa using hn
  have b8y:=KI rfl;have main:∀k,len+k≤ev→Rel P (I.set id (.eT c (k*shN ad))) w m B∧Ext f I w m (I.set id (.eT c (k*shN ad))) w m:=fun k aD=>by
   have hmul:=qa (shN ad) aD;rw[ju] at hmul;refine al.fq c7 hm ⟨_,hg,rfl⟩ w (.eT _ _) rfl (fun _ _=>rfl) (fun _ h=>h) rfl rfl rfl (fun _=>⟨_,hh,?_⟩);refine .eT (by omega) (fun i h h'=>?_) bg j4;have:=jj.2 i h (by rw[jj.1];exact h);simpa using this
  by_cases aD:ev<len+12
  ·obtain⟨h1,h2⟩:=main (ev-len) (by omega);refine⟨_,k6 _ (bQ.2 ⟨ev-len,Aq.2 (by omega),rfl⟩),.int .i64 (Int.ofNat ev),w,m,by simp[Builtin.cap_,run_underlying ht,goInt],?_,h1,h2⟩;show R w m _ B (.i .i64 (Int.ofNat (len+(ev-len)))) _;rw[show len+(ev-len)=ev by omega];exact .i _ _
  ·obtain⟨h1,h2⟩:=main 12 (by omega);exact⟨_,ni _ (d_.2 rfl),.int .i64 (Int.ofNat ev),w,m,by simp[Builtin.cap_,run_underlying ht,goInt],.fo ev (by omega),h1,h2⟩
theorem R.a3q{w:World}{m:Nat→Option Nat}{O:Nat→Prop}{B:Nat}{old:Bool}{i:Nat}{u:Value}(h:R w m O B (.g1 old i) u):∃a l c,u= .slice a l c:=by cases h with|g1 hu _=>exact⟨_,_,_,hu⟩
theorem a3r{n j:Nat}{u bR:Value}{O:Nat→Prop}(hx:R w m O B (.fo n) u)(aw:R w m O B (.i .i64 (Int.ofNat j)) bR)(az:j≤n)(t:TypeId)(ts:Array TypeId):
  (Builtin.min_ ts t #[u,bR]).run P w= .ok (.int .i64 (Int.ofNat j)) w:=by
 cases hx with
 |fo k aD=>
  obtain rfl:=aw.ll;have e:(if(Int.ofNat j)<(Int.ofNat k) then(Int.ofNat j) else Int.ofNat k)=Int.ofNat j:=by
   split
   ·rfl
   ·rename_i h;congr 1;simp only[tR,Ao] at h;omega
  simp[Builtin.min_,Builtin.min2];simpa using e
theorem a3s{n j:Nat}{u bR:Value}{O:Nat→Prop}(hx:R w m O B (.i .i64 (Int.ofNat j)) u)(aw:R w m O B (.fo n) bR)(az:j≤n)(t:TypeId)(ts:Array TypeId):
  (Builtin.min_ ts t #[u,bR]).run P w= .ok (.int .i64 (Int.ofNat j)) w:=by
 cases aw with
 |fo k aD=>
  obtain rfl:=hx.ll;have e:(if(Int.ofNat k)<(Int.ofNat j) then(Int.ofNat k) else Int.ofNat j)=Int.ofNat j:=by
   split
   ·rename_i h;simp only[tR,Ao] at h;omega
   ·rfl
  simp[Builtin.min_,Builtin.min2];simpa using e
theorem Rq{k:IntKind}{a b:Int}{u bR:Value}{O:Nat→Prop}(hx:R w m O B (.i k a) u)(aw:R w m O B (.i k b) bR)(t:TypeId)(ts:Array TypeId):
  (Builtin.min_ ts t #[u,bR]).run P w= .ok (.int k (if b<a then b else a)) w∧(Builtin.max_ ts t #[u,bR]).run P w= .ok (.int k (if b > a then b else a)) w:=by
 obtain rfl:=hx.ll;obtain rfl:=aw.ll;constructor
 ·simp[Builtin.min_,Builtin.min2]
 ·simp[Builtin.max_,Builtin.max2]
end
section
variable {P:Program}{w:World}{m:Nat→Option Nat}{O:Nat→Prop}{B:Nat}
def Rr(k:Nat)(d:TypeDesc):Prop:=(k=0∧∃j,d= .int j)∨(k=1∧d= .string)∨(k=2∧d= .bool)
theorem KP{t:TypeId}{k:Nat}(h:leafKind P t=some k):∃d,P.underlying t=some d∧Rr k d:=by
 unfold leafKind at h;split at h<;>cases h
 ·exact⟨_,by assumption,.inl ⟨rfl,_,rfl⟩⟩
 ·exact⟨_,by assumption,.inr (.inl ⟨rfl,rfl⟩)⟩
 ·exact⟨_,by assumption,.inr (.inr ⟨rfl,rfl⟩)⟩
theorem a3t{x y:List Nat}(hx:∀c∈x,c<256)(aw:∀c∈y,c<256):(strOf x==strOf y)=eqL x y:=by
 rw[oA,NL,pk];constructor
 ·intro h;have:=congrArg ByteArray.toList h;rw[zn,zn] at this;exact Kt x y hx aw this
 ·rintro rfl;rfl
theorem xp{t:TypeId}{k:Nat}(aD:leafKind P t=some k){x y:AV}{u v:Value}{r:Bool}(hx:R w m O B x u)(aw:R w m O B y v)(h:leafEq k x y=some r):
  (∀d an,(Op.equalIn (d+1) t u v).run P an= .ok r an)∧(∃d,P.underlying t=some d∧Rr k d∧Instr.sameNow d u v=some r)∧(r=true→∀n,Instr.sameBits n u v=true)∧(∀e d an,(Instr.checkKey e (d+1) t u).run P an= .ok () an):=by
 obtain⟨d,au,xq⟩:=KP aD;unfold leafEq at h;split at h
 ·rename_i bE a br b;split at h<;>cases h;rename_i rp;subst rp;obtain rfl:=hx.ll;obtain rfl:=aw.ll;rcases xq with⟨_,j,rfl⟩|⟨h,_⟩|⟨h,_⟩<;>first|(cases h;done)|skip
  have iU:(a==b)=decide (a=b):=by rw[oA];simp
  refine⟨fun d an=>?_,⟨_,au,.inl ⟨rfl,j,rfl⟩,?_⟩,fun al n=>?_,fun e d an=>?_⟩
  ·simp[Op.equalIn,run_underlying au,iU]
  ·simp[Instr.sameNow,iU]
  ·simp at al;subst al;simp[Instr.sameBits]
  ·simp[Instr.checkKey,run_underlying au]
 ·rename_i a b;cases h;obtain⟨rfl,h1⟩:=hx.pn;obtain⟨rfl,h2⟩:=aw.pn;rcases xq with⟨h,_⟩|⟨_,rfl⟩|⟨h,_⟩<;>first|(cases h;done)|skip
  have iU:=a3t h1 h2;refine⟨fun d an=>?_,⟨_,au,.inr (.inl ⟨rfl,rfl⟩),?_⟩,fun al n=>?_,fun e d an=>?_⟩
  ·simp[Op.equalIn,run_underlying au,iU]
  ·simp[Instr.sameNow,iU]
  ·simp[Instr.sameBits,iU,al]
  ·simp[Instr.checkKey,run_underlying au]
 ·rename_i a b;cases h;obtain rfl:=hx.vs;obtain rfl:=aw.vs;rcases xq with⟨h,_⟩|⟨h,_⟩|⟨_,rfl⟩<;>first|(cases h;done)|skip
  refine⟨fun d an=>?_,⟨_,au,.inr (.inr ⟨rfl,rfl⟩),?_⟩,fun al n=>?_,fun e d an=>?_⟩
  ·simp[Op.equalIn,run_underlying au]
  ·simp[Instr.sameNow]
  ·simp[Instr.sameBits];simpa using al
  ·simp[Instr.checkKey,run_underlying au]
 ·rename_i ex b;cases hm:qh b ex with
  |false=>rw[hm] at h;cases h
  |true=>
   rw[hm] at h;cases h;obtain⟨s,rfl,bx⟩:=FI hx hm;obtain⟨rfl,h2⟩:=aw.pn;rcases xq with⟨h,_⟩|⟨_,rfl⟩|⟨h,_⟩<;>first|(cases h;done)|skip
   have iU:=Q2 bx;refine⟨fun d an=>?_,⟨_,au,.inr (.inl ⟨rfl,rfl⟩),?_⟩,fun al n=>?_,fun e d an=>?_⟩
   ·simp[Op.equalIn,run_underlying au,iU]
   ·simp[Instr.sameNow,iU]
   ·cases al
   ·simp[Instr.checkKey,run_underlying au]
 ·rename_i a ex;cases hm:qh a ex with
  |false=>rw[hm] at h;cases h
  |true=>
   rw[hm] at h;cases h;obtain⟨s,rfl,bx⟩:=FI aw hm;obtain⟨rfl,h2⟩:=hx.pn;rcases xq with⟨h,_⟩|⟨_,rfl⟩|⟨h,_⟩<;>first|(cases h;done)|skip
   have iU:=Q2 (oa bx);refine⟨fun d an=>?_,⟨_,au,.inr (.inl ⟨rfl,rfl⟩),?_⟩,fun al n=>?_,fun e d an=>?_⟩
   ·simp[Op.equalIn,run_underlying au,iU]
   ·simp[Instr.sameNow,iU]
   ·cases al
   ·simp[Instr.checkKey,run_underlying au]
 ·cases h
theorem leafEqs_nil(l r:List AV):oB [] l r=match l,r with|[],[]=>some true|_,_=>none:=rfl
theorem leafEqs_cons(k:Nat)(bc:List Nat)(l r:List AV):oB (k::bc) l r=match l,r with
   |x::xs,y::aO=>match leafEq k x y,oB bc xs aO with|some a,some b=>some (a&&b)|_,_=>none
   |_,_=>none:=rfl
def KQ(P:Program)(i:Nat)(fs:List Field):Prop:=∀j (h:j<fs.length),(fs[j]).name≠ "_" ∧(fs[j]).offset=i+j∧shapeOf P (fs[j]).type=some none
theorem B7{t:TypeId}(aj:shapeOf P t=some none){arr:Array Value}{i:Nat}{u:Value}(hu:arr[i]? =some u)(w:World):(part t arr i).run P w= .ok u w:=by
 obtain⟨h1,_⟩:=km aj w;simp[part,h1,hu]
theorem forIn_eq{d:Nat}:∀(fs:List Field) (i:Nat) (bc:List Nat) (l r:List AV) (us a3:Array Value) (res:Bool),KQ P i fs→mapOL (fun f=>leafKind P f.type) fs=some bc→
  bz w m O B l (us.toList.drop i)→bz w m O B r (a3.toList.drop i)→oB bc l r=some res→∀an,
  (forIn fs ((none:Option Bool),()) (fun(f:Field) (_:Option Bool×Unit)=>
      if f.name= "_" then(pure (ForInStep.yield (none,())):Sem (ForInStep (Option Bool×Unit)))
      else do
       let a ←part f.type us f.offset
       let b ←part f.type a3 f.offset
       let c ←Op.equalIn (d+1) f.type a b
       if c=false then pure (ForInStep.done (some false,())) else pure (ForInStep.yield (none,())))).run P an= .ok (if res then(none,()) else(some false,())) an
 |[],i,bc,l,r,us,a3,res,_,aD,ar,al,h,an=>by
  simp[mapOL] at aD;subst aD;rw[leafEqs_nil] at h;split at h<;>cases h;simp
 |f::fs,i,bc,l,r,us,a3,res,hf,aD,ar,al,h,an=>by
  rw[mapOL] at aD;split at aD<;>cases aD;rename_i k ue rl nX;rw[leafEqs_cons] at h;split at h<;>try (cases h;done)
  rename_i x xs y aO;split at h<;>cases h;rename_i a b ha hb;obtain⟨h1,h2,h3⟩:=hf 0 (by simp);simp only[mJ,ti] at h1 h2 h3;obtain⟨u,hu,ic⟩:=ar.get (i:=0) (v:=x) rfl;obtain⟨v,av,KR⟩:=al.get (i:=0) (v:=y) rfl;rw[lL,ti,lM] at hu av;obtain⟨aM,_⟩:=xp rl ic KR ha;have p1:=B7 h3 hu;have p2:=B7 h3 av;have mO:bz w m O B xs (us.toList.drop (i+1)):=by
   have:=ar.drop 1;simpa [pb] using this
  have mh:bz w m O B aO (a3.toList.drop (i+1)):=by
   have:=al.drop 1;simpa [pb] using this
  have aA:=forIn_eq fs (i+1) ue xs aO us a3 b (fun j az=>by
   have:=hf (j+1) (by simpa using az);simp only[DD] at this;exact⟨this.1,by rw[this.2.1];omega,this.2.2⟩) nX mO mh hb an (d:=d)
  rw[DE];simp only[h1,if_false,dZ,h2,p1,p2,ec,aM];cases a with
  |false=>simp
  |true=>simpa using aA
theorem Rs{e:Bool}{d:Nat}:∀(fs:List Field) (i:Nat) (bc:List Nat) (l:List AV) (us:Array Value) (res:Bool),KQ P i fs→mapOL (fun f=>leafKind P f.type) fs=some bc→
  bz w m O B l (us.toList.drop i)→oB bc l l=some res→∀an,
  (forIn fs PUnit.unit (fun(f:Field) (_:PUnit)=>
      if f.name≠ "_" then(do
       let a ←part f.type us f.offset
       Instr.checkKey e (d+1) f.type a
       pure (ForInStep.yield PUnit.unit):Sem (ForInStep PUnit))
      else pure (ForInStep.yield PUnit.unit))).run P an= .ok PUnit.unit an
 |[],i,bc,l,us,res,_,aD,ar,h,an=>by simp
 |f::fs,i,bc,l,us,res,hf,aD,ar,h,an=>by
  rw[mapOL] at aD;split at aD<;>cases aD;rename_i k ue rl nX;rw[leafEqs_cons] at h;cases l with
  |nil=>cases h
  |cons x xs=>
  simp only at h;split at h<;>cases h;rename_i a b ha hb;obtain⟨h1,h2,h3⟩:=hf 0 (by simp);simp only[mJ,ti] at h1 h2 h3;obtain⟨u,hu,ic⟩:=ar.get (i:=0) (v:=x) rfl;rw[lL,ti,lM] at hu;obtain⟨_,_,_,aM⟩:=xp rl ic ic ha;have p1:=B7 h3 hu;have mO:bz w m O B xs (us.toList.drop (i+1)):=by
   have:=ar.drop 1;simpa [pb] using this
  have aA:=Rs (e:=e) (d:=d) fs (i+1) ue xs us b (fun j az=>by
   have:=hf (j+1) (by simpa using az);simp only[DD] at this;exact⟨this.1,by rw[this.2.1];omega,this.2.2⟩) nX mO hb an
  rw[DE];simp only[h1,ne_eq,not_false_eq_true,if_true,dZ,h2,p1,ec,aM,gx];exact aA
theorem Rt:∀ {bc:List Nat} {fs:List Field} {l r:List AV} {us a3:List Value},mapOL (fun f=>leafKind P f.type) fs=some bc→bz w m O B l us→bz w m O B r a3→oB bc l r=some true→∀n,
  us.length=a3.length∧(us.zip a3).all (fun(x,y)=>Instr.sameBits n x y)=true
 |[],fs,l,r,us,a3,aD,ar,al,h,n=>by
  rw[leafEqs_nil] at h;split at h<;>cases h;have h1:=ar.1;have h2:=al.1;simp at h1 h2;subst h1;subst h2;simp
 |k::bc,[],l,r,us,a3,aD,ar,al,h,n=>by simp[mapOL] at aD
 |k::bc,f::fs,l,r,us,a3,aD,ar,al,h,n=>by
  rw[mapOL] at aD;split at aD<;>cases aD;rename_i rl nX;rw[leafEqs_cons] at h;split at h<;>try (cases h;done)
  rename_i x xs y aO;split at h<;>try (cases h;done)
  rename_i a b ha hb;simp only[a6,cx] at h;obtain⟨rfl,rfl⟩:=h;obtain⟨u,FW,rfl⟩:∃u FW,us=u::FW:=by cases us with|nil=>have:=ar.1;simp at this|cons u FW=>exact⟨u,FW,rfl⟩
  obtain⟨v,sy,rfl⟩:∃v sy,a3=v::sy:=by cases a3 with|nil=>have:=al.1;simp at this|cons v sy=>exact⟨v,sy,rfl⟩
  have hu:R w m O B x u:=ar.2 0 (by simp) (by simp);have av:R w m O B y v:=al.2 0 (by simp) (by simp);obtain⟨_,_,rn,_⟩:=xp rl hu av ha;obtain⟨i1,i2⟩:=Rt nX (by simpa using ar.drop 1) (by simpa using al.drop 1) hb n;exact⟨by simpa using i1,by simp only[Ql,sn,rn rfl n,i2,so]⟩
theorem FX{t:TypeId}{bc:List Nat}(h:keyOk P t=some (.inr bc)):∃fs,P.underlying t=some (.struct fs)∧P.stoodInHeld t=false∧KQ P 0 fs.toList∧mapOL (fun f=>leafKind P f.type) fs.toList=some bc:=by
 unfold keyOk at h;split at h
 ·cases h
 ·split at h<;>try (cases h;done)
  rename_i fs hu;split at h<;>try (cases h;done)
  rename_i ah;simp only[cx,q6,hP] at ah;cases hm:mapOL (fun f=>leafKind P f.type) fs.toList with
  |none=>simp[hm] at h
  |some ue=>
   simp[hm] at h;subst h;refine⟨fs,hu,ah.1,fun j az=>?_,hm⟩;have:=ah.2 (fs.toList[j],j) (by rw[List.mem_iff_getElem];exact⟨j,by simpa using az,by simp⟩);simp only[cx,decide_eq_true_eq] at this;exact⟨this.1.1,by rw[this.1.2];omega,this.2⟩
theorem FY{t:TypeId}{k:Nat}(h:keyOk P t=some (.inl k)):leafKind P t=some k:=by
 unfold keyOk at h;split at h
 ·cases h;assumption
 ·split at h<;>try (cases h;done)
  split at h
  ·rename_i fs _ _;cases hm:mapOL (fun f=>leafKind P f.type) fs.toList with
   |none=>simp[hm] at h
   |some ue=>simp[hm] at h
  ·cases h
theorem eqStruct_run{t:TypeId}{fs:Array Field}(hu:P.underlying t=some (.struct fs))(aj:P.stoodInHeld t=false)(D:Nat)(us a3:Array Value)(an:World):
  (Op.equalIn (D+1) t (.agg us) (.agg a3)).run P an=((forIn fs.toList ((none:Option Bool),()) (fun(f:Field) (_:Option Bool×Unit)=>
      if f.name= "_" then(pure (ForInStep.yield (none,())):Sem (ForInStep (Option Bool×Unit)))
      else do
       let a ←part f.type us f.offset
       let b ←part f.type a3 f.offset
       let c ←Op.equalIn D f.type a b
       if c=false then pure (ForInStep.done (some false,())) else pure (ForInStep.yield (none,())))).run P an).andThen (fun a an=>Sem.run P (match a.fst with|some r=>pure r|none=>pure true) an):=by
 simp only[Op.equalIn,dZ,run_underlying hu,ec];simp[aj]
 congr 1
 funext a aW
 obtain⟨a,_⟩:=a;cases a<;>rfl
theorem a3u{t:TypeId}{fs:Array Field}(hu:P.underlying t=some (.struct fs))(e:Bool)(D:Nat)(us:Array Value)(an:World):
  (Instr.checkKey e (D+1) t (.agg us)).run P an=((forIn fs.toList PUnit.unit (fun(f:Field) (_:PUnit)=>
      if f.name≠ "_" then(do
       let a ←part f.type us f.offset
       Instr.checkKey e D f.type a
       pure (ForInStep.yield PUnit.unit):Sem (ForInStep PUnit))
      else pure (ForInStep.yield PUnit.unit))).run P an).andThen fun _ an=>Sem.run P (pure ()) an:=by
 simp only[Instr.checkKey,dZ,run_underlying hu,ec];rw[←Array.forIn_toList]
theorem FZ{t:TypeId}{ad:jL}(aD:keyOk P t=some ad){x y:AV}{u v:Value}{r:Bool}(hx:R w m O B x u)(aw:R w m O B y v)(h:keyEq ad x y=some r):
  (∀an,(Op.equal t u v).run P an= .ok r an)∧(r=true→Instr.sameBits 10000 u v=true):=by
 cases ad with
 |inl k=>
  obtain⟨h1,_,h2,_⟩:=xp (FY aD) hx aw h;exact⟨fun an=>h1 9999 an,fun al=>h2 al _⟩
 |inr bc=>
  obtain⟨fs,hu,aj,hf,hm⟩:=FX aD;simp only[keyEq] at h;split at h<;>try (cases h;done)
  obtain⟨us,rfl,ar,_⟩:=hx.ql;obtain⟨a3,rfl,al,_⟩:=aw.ql;refine⟨fun an=>?_,fun a3v=>?_⟩
  ·have key:∀d,(Op.equalIn (d+2) t (.agg us) (.agg a3)).run P an= .ok r an:=fun d=>by
    have:=forIn_eq (an:=an) (d:=d) fs.toList 0 bc _ _ us a3 r hf hm (by simpa using ar) (by simpa using al) h;rw[eqStruct_run hu aj (d+1),this];cases r<;>simp
   exact key 9998
  ·subst a3v;obtain⟨h1,h2⟩:=Rt (P:=P) hm ar al h 9999;have key:∀n,Instr.sameBits (n+1) (.agg us) (.agg a3)=(us.size==a3.size&&(us.toList.zip a3.toList).all fun(x,y)=>Instr.sameBits n x y):=fun n=>rfl;rw[show(10000:Nat)=9999+1 from rfl,key,h2];simpa using h1
theorem Ru{t:TypeId}{ad:jL}(aD:keyOk P t=some ad){x:AV}{u:Value}{r:Bool}(hx:R w m O B x u)(h:keyEq ad x x=some r)(e:Bool)(an:World):(Instr.checkKey e 10000 t u).run P an= .ok () an:=by
 cases ad with
 |inl k=>
  obtain⟨_,_,_,h1⟩:=xp (FY aD) hx hx h;exact h1 e 9999 an
 |inr bc=>
  obtain⟨fs,hu,aj,hf,hm⟩:=FX aD;simp only[keyEq] at h;cases x<;>simp only[reduceCtorEq] at h;obtain⟨us,rfl,ar,_⟩:=hx.ql;have key:∀d,(Instr.checkKey e (d+2) t (.agg us)).run P an= .ok () an:=fun d=>by
   have:=Rs (an:=an) (e:=e) (d:=d) fs.toList 0 bc _ us r hf hm (by simpa using ar) h;rw[a3u hu e (d+1),this];rfl
  exact key 9998
theorem Rv{t:TypeId}{ad:jL}(aD:keyOk P t=some ad){x:AV}{u:Value}(hx:R w m O B x u)(h:keySelf ad x=true)(e:Bool)(an:World):(Instr.checkKey e 10000 t u).run P an= .ok () an:=by
 unfold keySelf at h;split at h
 ·rename_i ex;obtain⟨d,au,xq⟩:=KP (FY aD);rcases xq with⟨h,_⟩|⟨_,rfl⟩|⟨h,_⟩<;>first|(cases h;done)|skip
  cases hx with
  | @gD _ _ _ _ s _=>
   have key:∀d,(Instr.checkKey e (d+1) t (.string s)).run P an= .ok () an:=fun d=>by simp[Instr.checkKey,run_underlying au]
   exact key 9999
 ·split at h
  ·rename_i al;exact Ru aD hx al e an
  ·cases h
end
theorem Rw{α β:Type}{r:α→β→Prop}:∀ {l:List α} {cF:List β},cF.length=l.length→(∀i (h:i<l.length) (h':i<cF.length),r (l[i]) (cF[i]))→ji r l cF
 |[],[],_,_=>trivial
 |[],_::_,h,_=>by simp at h
 |_::_,[],h,_=>by simp at h
 |x::xs,y::aO,h,al=>⟨al 0 (by simp) (by simp),Rw (by simpa using h) (fun i a b=>al (i+1) (by simpa using a) (by simpa using b))⟩
theorem xr{α β:Type}{r:α→β→Prop}:∀ {l:List α} {cF:List β},ji r l cF→cF.length=l.length
 |[],[],_=>rfl
 |[],_::_,h=>h.elim
 |_::_,[],h=>h.elim
 |_::_,_::_,h=>by simp[xr h.2]
theorem xt{α β:Type}{r:α→β→Prop}:∀ {l:List α} {cF:List β},ji r l cF→∀i (h:i<l.length) (h':i<cF.length),r (l[i]) (cF[i])
 |[],[],_,i,h,_=>by simp at h
 |[],_::_,h,_,_,_=>h.elim
 |_::_,[],h,_,_,_=>h.elim
 |_::_,_::_,h,i,h1,h2=>by
  cases i with
  |zero=>exact h.1
  |succ i=>exact xt h.2 i (by simpa using h1) (by simpa using h2)
abbrev kI:=AV×AV×Nat
def qu(ad:jL)(k:AV):List kI→Option Nat→Prop
 |[],none=>True
 |[],some _=>False
 |e::_,some 0=>keyEq ad k e.1=some true
 |e::es,some (i+1)=>keyEq ad k e.1=some false∧qu ad k es (some i)
 |e::es,none=>keyEq ad k e.1=some false∧qu ad k es none
theorem a3w(ad:jL)(k:AV):oC ad k []=some none:=rfl
theorem findE_cons(ad:jL)(k:AV)(e:kI)(es:List kI):oC ad k (e::es)=match keyEq ad k e.1 with|none=>none|some true=>some (some e.2.1)|some false=>oC ad k es:=rfl
theorem a3x(ad:jL)(k v:AV):nR ad k v []=some none:=rfl
theorem updE_cons(ad:jL)(k v:AV)(e:kI)(es:List kI):nR ad k v (e::es)=match keyEq ad k e.1 with
  |none=>none
  |some true=>some (some ((k,v,e.2.2)::es))
  |some false=>match nR ad k v es with|none=>none|some none=>some none|some (some es)=>some (some (e::es)):=rfl
theorem KS{ad:jL}{k:AV}:∀ {es:List kI} {r:Option AV},oC ad k es=some r→(r=none∧qu ad k es none)∨∃i e,qu ad k es (some i)∧es[i]? =some e∧r=some e.2.1
 |[],r,h=>by rw[a3w] at h;cases h;exact .inl ⟨rfl,trivial⟩
 |e::es,r,h=>by
  rw[findE_cons] at h;split at h
  ·cases h
  ·rename_i aD;cases h;exact .inr ⟨0,e,aD,rfl,rfl⟩
  ·rename_i aD;rcases KS h with⟨h1,h2⟩|⟨i,eb,h1,h2,h3⟩
   ·exact .inl ⟨h1,aD,h2⟩
   ·exact .inr ⟨i+1,eb,⟨aD,h1⟩,by simpa using h2,h3⟩
theorem KT{ad:jL}{k v:AV}:∀ {es:List kI} {r:Option (List kI)},nR ad k v es=some r→(r=none∧qu ad k es none)∨∃i e,qu ad k es (some i)∧es[i]? =some e∧r=some (es.set i (k,v,e.2.2))
 |[],r,h=>by rw[a3x] at h;cases h;exact .inl ⟨rfl,trivial⟩
 |e::es,r,h=>by
  rw[updE_cons] at h;split at h
  ·cases h
  ·rename_i aD;cases h;exact .inr ⟨0,e,aD,rfl,rfl⟩
  ·rename_i aD;split at h<;>cases h
   ·rename_i hu;rcases KT hu with⟨h1,h2⟩|⟨i,eb,h1,h2,h3⟩
    ·exact .inl ⟨rfl,aD,h2⟩
    ·cases h3
   ·rename_i a3y hu;rcases KT hu with⟨h1,h2⟩|⟨i,eb,h1,h2,h3⟩
    ·cases h1
    ·cases h3;exact .inr ⟨i+1,eb,⟨aD,h1⟩,by simpa using h2,rfl⟩
theorem Rx{k:Nat}{x y:AV}(h:leafEq k x y=some true):leafEq k y x=some true:=by
 unfold leafEq at h;split at h
 ·split at h<;>simp at h;rename_i e;subst e;subst h;simp[leafEq]
 ·simp only[a6,pk] at h;subst h;simp[leafEq,(pk _ _).2 rfl]
 ·simp at h;subst h;simp[leafEq]
 ·rename_i ex b;cases hm:qh b ex<;>rw[hm] at h<;>cases h
 ·rename_i a ex;cases hm:qh a ex<;>rw[hm] at h<;>cases h
 ·cases h
theorem Ry:∀ {bc:List Nat} {x y:List AV},oB bc x y=some true→oB bc y x=some true
 |[],x,y,h=>by
  rw[leafEqs_nil] at h ⊢;split at h<;>cases h;rfl
 |k::bc,x,y,h=>by
  rw[leafEqs_cons] at h ⊢;split at h<;>try (cases h;done)
  split at h<;>try (cases h;done)
  rename_i ha hb;simp only[a6,cx] at h;obtain⟨rfl,rfl⟩:=h;simp only[Rx ha,Ry hb,so]
theorem a3z{ad:jL}{x y:AV}(h:keyEq ad x y=some true):keyEq ad y x=some true:=by
 cases ad with
 |inl k=>exact Rx h
 |inr bc=>
  simp only[keyEq] at h ⊢;split at h<;>try (cases h;done)
  exact Ry h
section
variable {P:Program}{w:World}{m:Nat→Option Nat}{O:Nat→Prop}{B:Nat}
def uf(w:World)(m:Nat→Option Nat)(O:Nat→Prop)(B:Nat)(e:kI)(eb:MapEntry):Prop:=R w m O B e.1 eb.key∧R w m O B e.2.1 eb.val∧eb.born=e.2.2
def got(q:Option Nat)(n:Nat)(dI:List MapEntry):Option (Nat×Value):=match q with|none=>none|some i=>match dI[i]? with|some e=>some (i+n,e.val)|none=>none
theorem KU{t:TypeId}{ad:jL}(aD:keyOk P t=some ad){k:AV}{u:Value}(hu:R w m O B k u):∀ {es:List kI} {dI:List MapEntry} {q:Option Nat} (n:Nat),ji (uf w m O B) es dI→qu ad k es q→∀an,
  (Instr.findAsking t u dI n).run P an= .ok (got q n dI) an
 |[],[],q,n,_,h,an=>by
  cases q with
  |none=>simp[Instr.findAsking,got]
  |some i=>exact h.elim
 |[],_::_,_,_,h,_,_=>h.elim
 |_::_,[],_,_,h,_,_=>h.elim
 |e::es,eb::dI,q,n,al,h,an=>by
  cases q with
  |none=>
   obtain⟨h1,h2⟩:=h;have:=(FZ aD hu al.1.1 h1).1 an;have aA:=KU aD hu (n+1) al.2 h2 an;simp[Instr.findAsking,this,aA,got]
  |some i=>
   cases i with
   |zero=>
    have:=(FZ aD hu al.1.1 h).1 an;simp[Instr.findAsking,this,got]
   |succ i=>
    obtain⟨h1,h2⟩:=h;have:=(FZ aD hu al.1.1 h1).1 an;have aA:=KU aD hu (n+1) al.2 h2 an;simp only[Instr.findAsking,dZ,this,ec,nO,if_false,aA,got,z1];cases dI[i]? <;>simp;omega
theorem KV{t:TypeId}{gG:Nat}{d:TypeDesc}(au:P.underlying t=some d)(aD:leafKind P t=some gG){k:AV}{u:Value}(hu:R w m O B k u):∀ {es:List kI} {dI:List MapEntry} {q:Option Nat} (n:Nat),ji (uf w m O B) es dI→qu (.inl gG) k es q→
  Instr.findNow d u dI n=some (got q n dI)
 |[],[],q,n,_,h=>by
  cases q with
  |none=>simp[Instr.findNow,got]
  |some i=>exact h.elim
 |[],_::_,_,_,h,_=>h.elim
 |_::_,[],_,_,h,_=>h.elim
 |e::es,eb::dI,q,n,al,h=>by
  have same:∀ {r},keyEq (.inl gG) k e.1=some r→Instr.sameNow d u eb.key=some r:=fun {r} hh=>by
   obtain⟨_,⟨dT,h1,_,h2⟩,_⟩:=xp aD hu al.1.1 hh;rw[au] at h1;cases h1;exact h2
  cases q with
  |none=>
   obtain⟨h1,h2⟩:=h;have:=same h1;have aA:=KV au aD hu (n+1) al.2 h2;simp[Instr.findNow,this,aA,got]
  |some i=>
   cases i with
   |zero=>
    have:=same h;simp[Instr.findNow,this,got]
   |succ i=>
    obtain⟨h1,h2⟩:=h;have:=same h1;have aA:=KV au aD hu (n+1) al.2 h2;simp only[Instr.findNow,this,aA,got,z1];cases dI[i]? <;>simp;omega
theorem a3A{fs:Array Field}{u:Value}(e:MapEntry)(es:List MapEntry)(n:Nat):Instr.findNow (.struct fs) u (e::es) n=none:=by
 simp[Instr.findNow,Instr.sameNow]
theorem B8{t:TypeId}{ad:jL}(aD:keyOk P t=some ad){k:AV}{u:Value}(hu:R w m O B k u){es:List kI}{dI:List MapEntry}{q:Option Nat}(al:ji (uf w m O B) es dI)(h:qu ad k es q)(an:World):
  (Instr.findKey t u dI).run P an= .ok (got q 0 dI) an:=by
 cases ad with
 |inl gG=>
  have ar:=FY aD;obtain⟨d,au,_⟩:=KP ar;have:=KV au ar hu 0 al h;simp[Instr.findKey,run_underlying au,this]
 |inr bc=>
  obtain⟨fs,au,_⟩:=FX aD;simp only[Instr.findKey,dZ,run_underlying au,ec];cases dI with
  |nil=>
   have a3B:es=[]:=mI (by have:=xr al;simpa using this.symm);subst a3B;cases q with
   |none=>simp[Instr.findNow,got]
   |some i=>exact h.elim
  |cons eb dI=>
   rw[a3A];exact KU aD hu 0 al h an
theorem qu.lt{ad:jL}{k:AV}:∀ {es:List kI} {i:Nat},qu ad k es (some i)→∃e,es[i]? =some e∧keyEq ad k e.1=some true
 |[],i,h=>h.elim
 |e::es,0,h=>⟨e,rfl,h⟩
 |e::es,i+1,h=>by
  obtain⟨eb,h1,h2⟩:=qu.lt h.2;exact⟨eb,by simpa using h1,h2⟩
end
section
variable {P:Program}{I:af}{w:World}{m:Nat→Option Nat}{B:Nat}{f:Nat}
theorem Rel.B9(al:Rel P I w m B){id ax:Nat}{es:List kI}{aL:Nat}(hm:m id=some ax)(hg:I.get id=some (.map es aL)):
  ∃dI:Array MapEntry,w.heap[ax]? =some (.map dI aL)∧ji (uf w m (a_ I m) B) es dI.toList:=by
 obtain⟨b7,h1,h2⟩:=al.obj id ax _ hm hg rfl;cases h2 with
 | @map _ dI _ ar jx=>
  refine⟨dI,h1,Rw (by simpa using ar) (fun i a b=>?_)⟩;have:=jx i a (by simpa using b);exact⟨by simpa using this.1,by simpa using this.2.1,by simpa using this.2.2⟩
theorem xj{O:Nat→Prop}{a:AV}{u:Value}(two c:Bool)(h:R w m O B a u):R w m O B (v2 two a c) (if two then .tuple #[u,.bool c] else u):=by
 cases two with
 |false=>exact h
 |true=>exact R.tX (bz.cons h (bz.cons (.b c) bz.nil))
theorem a3C(al:Rel P I w m B){t lk e:TypeId}(ht:P.underlying t=some (.map lk e)){ad:jL}(aD:keyOk P lk=some ad){z:AV}(bg:zeroOf P e=some z)(two:Bool){x k v:AV}{u qv:Value}
  (hx:R w m (a_ I m) B x u) (qw:R w m (a_ I m) B k qv)
  (h:lookupA I ad x k z two=some v):∃bR,(Instr.lookup t u qv two).run P w= .ok bR w∧R w m (a_ I m) B v bR:=by
 obtain⟨eD,iC,ln,_⟩:=rj bg w;have mP:=ln w m (a_ I m) B;unfold lookupA at h;cases rp:keySelf ad k with
 |false=>simp[rp] at h
 |true=>
  simp only[rp,cond_true] at h;split at h
  ·cases h;cases hx;have ah:=Rv aD qw rp true w;have hf:=B8 (P:=P) (es:=[]) (dI:=[]) (q:=none) (w:=w) (m:=m) (O:=a_ I m) (B:=B) aD qw trivial trivial w;refine⟨_,?_,xj two false mP⟩;simp[Instr.lookup,run_underlying ht,ah,hf,got,iC]
  ·rename_i id;obtain⟨ax,hm,rfl⟩:=hx.FH;split at h<;>try (cases h;done)
   rename_i es aL hg;obtain⟨dI,hh,hall⟩:=al.B9 hm hg;have xu:=FU (P:=P) (w:=w) hh (fun _ _ _ h=>by cases h);have ah:=Rv aD qw rp dI.isEmpty w;split at h<;>cases h
   ·rename_i a2 KW;rcases KS KW with⟨h1,_⟩|⟨i,zx,h1,h2,h3⟩
    ·cases h1
    ·cases h3;obtain⟨hi,cS⟩:=ki.1 h2;have hlen:=xr hall;have iV:i<dI.toList.length:=by omega
     have sG:=xt hall i hi iV;rw[cS] at sG;have hf:=B8 (P:=P) aD qw hall h1 w;have KX:got (some i) 0 dI.toList=some (i,dI.toList[i].val):=by simp[got,a9 iV]
     rw[KX] at hf;refine⟨_,?_,xj two true sG.2.1⟩;simp only[Instr.lookup,dZ,run_underlying ht,ec,xu,gx,ah,hf]
   ·rename_i KW;rcases KS KW with⟨_,h1⟩|⟨i,zx,h1,h2,h3⟩
    ·have hf:=B8 (P:=P) aD qw hall h1 w;rw[show got none 0 dI.toList=none from rfl] at hf;refine⟨_,?_,xj two false mP⟩;simp only[Instr.lookup,dZ,run_underlying ht,ec,xu,gx,ah,hf,iC]
    ·cases h3
  ·cases h
theorem Rz(al:Rel P I w m B){t lk e:TypeId}(ht:P.underlying t=some (.map lk e)){ad:jL}(aD:keyOk P lk=some ad){id ax:Nat}{es:List kI}{aL:Nat}(c7:f≤id)(hm:m id=some ax)(hg:I.get id=some (.map es aL)){k v:AV}{qv zy:Value}
  (qw:R w m (a_ I m) B k qv) (RD:R w m (a_ I m) B v zy) {RE:Bool} (rp:keyEq ad k k=some RE) {r:Option (List kI)} (hu:nR ad k v es=some r):
  ∃an,(Instr.mapUpdate t (.map (some ax)) qv zy).run P w= .ok () an∧
   Rel P (I.set id (match r with|some es=>.map es aL|none=>.map (es++[(k,v,aL)]) (aL+1))) an m B∧Ext f I w m (I.set id (match r with|some es=>.map es aL|none=>.map (es++[(k,v,aL)]) (aL+1))) an m:=by
 obtain⟨dI,hh,hall⟩:=al.B9 hm hg;have hlen:=xr hall;simp only[qd] at hlen;have xu:=FU (P:=P) (w:=w) hh (fun _ _ _ h=>by cases h);have ah:=Ru aD qw rp false w;have hb:=zm hh;have fq:∀(J:AO) (b7:Obj),mb P w m (a_ I m) B J b7→dU w ax=none→J.isDead=false→
   Rel P (I.set id J) {w with heap:=w.heap.setIfInBounds ax b7} m B∧Ext f I w m (I.set id J) {w with heap:=w.heap.setIfInBounds ax b7} m:=fun J b7 ab gT au=>
  al.fq c7 hm ⟨_,hg,rfl⟩ {w with heap:=w.heap.setIfInBounds ax b7} J (by simp) (fun b bx=>by simp[Ie (oa bx)]) (fun n hn=>by rw[gT] at hn;cases hn) rfl rfl rfl (fun _=>⟨b7,by simp[hb],ab⟩)
 have gT:dU w ax=none:=by unfold dU;rw[hh]
 rcases KT hu with⟨rfl,rq⟩|⟨i,zx,rq,hi,rfl⟩
 ·have hf:=B8 (P:=P) aD qw hall rq w;rw[show got none 0 dI.toList=none from rfl] at hf;refine⟨{w with heap:=w.heap.setIfInBounds ax (.map (dI.push {key:=qv,val:=zy,born:=aL}) (aL+1))},?_,fq _ _ ?_ gT rfl⟩
  ·simp only[Instr.mapUpdate,dZ,run_underlying ht,ec,xu,ah,hf];exact Rp _ hh (fun _ _ _ h=>by cases h)
  ·refine .map (by simp[hlen]) (fun j h1 h2=>?_);by_cases az:j<es.length
   ·have:=xt hall j az (by simp;omega);rw[jn az,Array.getElem_push_lt (by omega)];simpa [uf] using this
   ·have ff:j=es.length:=by simp at h1;omega
    subst ff;have:(dI.push {key:=qv,val:=zy,born:=aL})[es.length]'h2={key:=qv,val:=zy,born:=aL}:=by
     simp only[←hlen,Array.getElem_push_eq]
    rw[this];simp only[jG (o _),kj,mJ];exact⟨qw,RD,trivial⟩
 ·have hf:=B8 (P:=P) aD qw hall rq w;obtain⟨j6,cS⟩:=ki.1 hi;have iV:i<dI.toList.length:=by simp;omega
  have a3D:i<dI.size:=by simpa using iV
  have sG:=xt hall i j6 iV;rw[cS] at sG;have KX:got (some i) 0 dI.toList=some (i,dI.toList[i].val):=by simp[got,a9 iV]
  rw[KX] at hf;obtain⟨e2,nr,a3E⟩:=rq.lt;rw[hi] at nr;cases nr;have sA:=(FZ aD sG.1 qw (r:=true) (by
   exact a3z a3E)).2 rfl
  have er:dI[i]? =some dI[i]:=nN a3D;refine⟨{w with heap:=w.heap.setIfInBounds ax (.map (dI.modify i fun e=>{e with key:=qv,val:=zy}) aL)},?_,fq _ _ ?_ gT rfl⟩
  ·simp only[Instr.mapUpdate,dZ,run_underlying ht,ec,xu,ah,hf,er,wj,Option.getD_some];have a3F:Instr.sameBits 10000 dI[i].key qv=true:=by simpa using sA
   have pt:(Instr.keyThatStays dI[i].key qv).run P w= .ok qv w:=by simp only[Instr.keyThatStays,a3F,if_true,gx]
   simp only[pt,ec];exact Rp _ hh (fun _ _ _ h=>by cases h)
  ·refine .map (by simp[hlen]) (fun j h1 h2=>?_);simp only[uh] at h1;have az:=xt hall j h1 (by simp;omega);rw[Ec,Array.getElem_modify];by_cases RH:i=j
   ·subst RH;simp only[if_true];refine⟨qw,RD,?_⟩;have:=sG.2.2;simpa using this
   ·simp only[if_neg RH];simpa [uf] using az
end
end
section
variable [Tok]
open Go.RowKit
open Go.ChangeMaps (setBlock)
section
variable {P:Program}{I:af}{w:World}{m:Nat→Option Nat}{B f:Nat}
theorem a3G(s:ByteArray){c:Nat}(h:s.size≤c):(bytesRow s c).size=c:=by
 have:s.data.size=s.size:=rfl;simp[bytesRow,this];omega
theorem a3H{l:List Nat}(ar:∀c∈l,c<256){c:Nat}(i:Nat)(h:i<l.length):(bytesRow (strOf l) c)[i]? =some (.int .u8 (Int.ofNat l[i])):=by
 have ah:l[i]<256:=ar _ (aS h);unfold bytesRow;rw[Array.getElem?_append_left (by simp[strOf];exact h)];simp[strOf,h];omega
theorem a3I(al:Rel P I w m B)(f:Nat){s d e:TypeId}(aj:P.underlying s=some .string)(au:P.underlying d=some (.slice e))(he:P.underlying e=some (.int .u8)){l:List Nat}{u:Value}(hx:R w m (a_ I m) B (.s l) u):
  ∃bR an aH,(convert s d u).run P w= .ok bR an∧R an aH (a_ (I.push (.cells (l.map fun c=>AV.i .u8 (Int.ofNat c)))) aH) B (.ak I.next 0 l.length none none) bR∧Rel P (I.push (.cells (l.map fun c=>AV.i .u8 (Int.ofNat c)))) an aH B∧Ext f I w m (I.push (.cells (l.map fun c=>AV.i .u8 (Int.ofNat c)))) an aH:=by
 obtain⟨rfl,ar⟩:=hx.pn;have bV:(strOf l).size=l.length:=vr l;have iD:=grownCap_ge w (strOf l).size 0 e;have b8:=run_bytes_of_string (P:=P) w s d e (strOf l) aj au he;obtain⟨cap,gw⟩:∃cap,cap=grownCap w (strOf l).size 0 e:=⟨_,rfl⟩
 rw[←gw] at iD b8;have uc:=a3G (strOf l) iD;obtain⟨h1,h2⟩:=al.alloc f (w.drew.alloc (.cells (bytesRow (strOf l) cap) e ((bytesRow (strOf l) cap).size,(bytesRow (strOf l) cap).size+1))) (.cells (l.map fun c=>AV.i .u8 (Int.ofNat c))) _ rfl rfl rfl rfl rfl
  (.cells (by rw[uc,aJ];omega) (fun i h h'=>by
   simp only[aJ] at h;have h3:=a3H ar (c:=cap) i h;rw[nN h'] at h3;rw[fQ,ia h3];exact .i _ _) (fun i hi=>by
    have:¬(bytesRow (strOf l) cap).size≤i:=by omega
    simp[this]) (fun x hx=>by obtain⟨c,_,rfl⟩:=bQ.1 hx;rfl))
 refine⟨_,_,_,b8,?_,h1,h2⟩;rw[bV];refine .ak (hB _ _ _) (by omega) (fun c ah=>by cases ah) (n:=(bytesRow (strOf l) cap).size) ?_ (by rw[uc];simp[shN]) (fun _=>by rw[uc];simp[shN]);have:(w.drew.alloc (.cells (bytesRow (strOf l) cap) e ((bytesRow (strOf l) cap).size,(bytesRow (strOf l) cap).size+1))).heap[w.heap.size]? =some (.cells (bytesRow (strOf l) cap) e ((bytesRow (strOf l) cap).size,(bytesRow (strOf l) cap).size+1)):=heap_alloc_new w.drew _;unfold dU;rw[this]
theorem KY{x:AV}{n:Nat}(h:byteOf x=some n):x= .i .u8 (Int.ofNat n)∧n<256:=by
 unfold byteOf at h;split at h
 ·rename_i k;cases hb:Nat.blt k 256 with
  |false=>rw[hb] at h;cases h
  |true=>rw[hb] at h;cases h;exact⟨rfl,by simpa [gg] using hb⟩
 ·cases h
theorem a3J(al:Rel P I w m B){s d e:TypeId}(aj:P.underlying s=some (.slice e))(he:P.underlying e=some (.int .u8))(au:P.underlying d=some .string){x:AV}{xs:List AV}{l:List Nat}{u:Value}(hx:R w m (a_ I m) B x u)(h:readList I x=some xs)(hb:mapO byteOf xs=some l):
  (convert s d u).run P w= .ok (.string (strOf l)) w∧∀c∈l,c<256:=by
 obtain⟨hlen,er⟩:=mc hb;have dj:xs=l.map fun c=>AV.i .u8 (Int.ofNat c):=by
  apply List.ext_getElem
  ·simp[hlen]
  ·intro i h1 h2;have:=(KY (er i h1 (by omega))).1;simp[this]
 have bZ:∀c∈l,c<256:=fun c ah=>by
  obtain⟨i,hi,rfl⟩:=gm ah;exact(KY (er i (by omega) hi)).2
 refine⟨?_,bZ⟩;obtain⟨base,c,us,rfl,hle,bD,mi,nW,F0⟩:=B3 (ad:=none) al hx h (fun a ha=>by rw[dj] at ha;obtain⟨c,_,rfl⟩:=bQ.1 ha;rfl);cases base with
 |none=>
  obtain⟨h0,_⟩:=F0;have:l=[]:=by
   have:=congrArg List.length h0;simp[dj] at this;exact this
  subst this;rw[run_convert_bytes_string w s d e _ _ _ aj he au];simp[Conv.bytesToString,strOf];rfl
 |some a=>
  obtain⟨a3K,xv,a3L⟩:=F0;clear a3L;have zu:xs.flatMap AV.cells=xs:=by
   have h1:∀y∈xs,AV.cells y=[y]:=fun y aw=>by rw[dj] at aw;obtain⟨c,_,rfl⟩:=bQ.1 aw;rfl
   clear bD mi nW hle dj h hb hlen er hx a3K
   induction xs with
   |nil=>rfl
   |cons y aO aA=>rw[eG,h1 y (by simp),aA (fun z bg=>h1 z (by simp[bg]))];rfl
  have key:=run_convert_bytes_back (P:=P) w s d e a c (l.map Nat.toUInt8) aj he au (fun j az=>by
   simp only[aJ] at az;have oO:j<us.length:=by rw[mi];simp[shN];omega
   rw[zu] at bD;have h1:=bD.2 j (by omega) oO;have h2:xs[j]'(by omega)=AV.i .u8 (Int.ofNat l[j]):=(KY (er j (by omega) az)).1;rw[h2] at h1;have h3:=h1.ll;have aE:=xv j us[j] (a9 oO);rw[aE,h3];have ah:l[j]<256:=bZ _ (aS az);simp;omega)
  have aM:xs.length=(l.map Nat.toUInt8).length:=by simp[hlen]
  rw[aM,key];rfl
theorem a3M(al:Rel P I w m B)(f:Nat){t e:TypeId}{ad:Option Nat}(ht:P.underlying t=some (.slice e))(aj:shapeOf P e=some ad){i:TypeInfo}(hi:P.info? e=some i){z:AV}(bg:zeroOf P e=some z)(vt:z.cells.length=shN ad){n c:Nat}{RI kn:IntKind}(a3N:n≤c)(hb:i.bytes*c≤281474976710656)(ah:c≤281474976710656):
  ∃bR an aH,(Instr.makeSlice t (.int RI (Int.ofNat n)) (.int kn (Int.ofNat c))).run P w= .ok bR an∧R an aH (a_ (I.push (.cells (fP c z.cells))) aH) B (.ak I.next 0 n ad (some c)) bR∧Rel P (I.push (.cells (fP c z.cells))) an aH B∧Ext f I w m (I.push (.cells (fP c z.cells))) an aH:=by
 obtain⟨_,bV,_⟩:=km aj w;have RJ:i.size=shN ad:=by
  have h1:=bV;simp[sizeOf,typeInfo,hi] at h1;exact h1
 obtain⟨eD,iC,ln,mP⟩:=rj bg w;have xw:i.zero=some eD:=by
  simp[zeroValue,typeInfo,hi] at iC;cases hq:i.zero with
  |none=>simp[hq] at iC
  |some q=>simp[hq] at iC;rw[iC]
 have k0:=(ln w m (a_ I m) B).cells;have lT:eD.cells.size=shN ad:=by have:=k0.1;simp at this;omega
 have b8:=run_make (P:=P) w t e i eD ht hi xw RI kn (Int.ofNat n) (Int.ofNat c) (Dl _) (by show(n:Int)≤c;omega) (by
                                                                         show(i.bytes:Int)*(c:Int)≤_;have:((i.bytes*c:Nat):Int)≤281474976710656:=by omega
                                                                         rwa[Int.natCast_mul] at this) (by show(c:Int)≤_;omega)
 have cj:(Int.ofNat c).toNat=c:=rfl;have aM:(Int.ofNat n).toNat=n:=rfl;rw[cj,aM,RJ] at b8;have nY:=zq k0 c;have sE:eD.cells.toList.length=shN ad:=by simp[lT]
 rw[sE] at nY;have nV:(madeCells eD.cells (c*shN ad)).toList=(List.range (c*shN ad)).map fun i=>eD.cells.toList[i%shN ad]! :=by
  unfold madeCells;rw[sm,wm];apply gl;intro a _;rw[lT,I3,pa];simp
 rw[←nV] at nY;have zs:(madeCells eD.cells (c*shN ad)).size=c*shN ad:=size_madeCells _ _;obtain⟨an,aH,r1,r2,nU,tY,KC⟩:=FG al f (el:=e) nY (zr mP c);have a3O:an=w.alloc (.cells (madeCells eD.cells (c*shN ad)) e):=by
  have h1:(newRow e (madeCells eD.cells (c*shN ad))).run P w= .ok ⟨w.heap.size,0,none⟩ {w with heap:=w.heap.push (.cells (madeCells eD.cells (c*shN ad)) e)}:=by simp[newRow]
  rw[h1] at r1;cases r1;rfl
 subst a3O;exact⟨_,_,aH,b8,.ak r2 a3N (fun aQ ug=>by cases ug;rfl) (n:=(madeCells eD.cells (c*shN ad)).size) (by unfold dU;rw[nU]) (by rw[zs];omega) (fun h=>by cases h),tY,KC⟩
theorem a3P(al:Rel P I w m B)(f:Nat){t KZ ty e:TypeId}{ad:Option Nat}{cg oP:IntKind}(ht:P.underlying t=some (.slice e))(a3Q:P.underlying KZ=some (.int cg))(aj:shapeOf P e=some ad){i:TypeInfo}(hi:P.info? e=some i){z:AV}(bg:zeroOf P e=some z)(vt:z.cells.length=shN ad)(qo:i.bytes≠0)(b8z:0<shN ad){k:Nat}(h0:0<k)(hb:(3*k+2000)*i.bytes≤281474976710656):
  ∃bR an aH,(Builtin.append_ #[t,KZ] ty #[.slice none 0 0,.int oP (Int.ofNat k)]).run P w= .ok bR an∧R an aH (a_ (I.push (.cells (fP k z.cells))) aH) B (.ak I.next 0 k ad none) bR∧Rel P (I.push (.cells (fP k z.cells))) an aH B∧Ext f I w m (I.push (.cells (fP k z.cells))) an aH:=by
 obtain⟨_,bV,_⟩:=km aj w;have RJ:i.size=shN ad:=by
  have h1:=bV;simp[sizeOf,typeInfo,hi] at h1;exact h1
 obtain⟨eD,iC,ln,mP⟩:=rj bg w;have xw:i.zero=some eD:=by
  simp[zeroValue,typeInfo,hi] at iC;cases hq:i.zero with
  |none=>simp[hq] at iC
  |some q=>simp[hq] at iC;rw[iC]
 have k0:=(ln w m (a_ I m) B).cells;have lT:eD.cells.size=shN ad:=by have:=k0.1;simp at this;omega
 have rn:1≤i.bytes:=OL.2 qo;have po:(3*k+2000)*1≤(3*k+2000)*i.bytes:=OM _ rn;have vw:k*i.bytes≤(3*k+2000)*i.bytes:=qa _ (by omega);have b8:=Lib.run_append_nil_zeros (P:=P) w t KZ ty e i eD oP cg ht a3Q hi xw k h0 (by omega) (by omega) (by omega);have iD:=grownCap_ge w k 0 e;have nY:=zq k0 k;have sE:eD.cells.toList.length=shN ad:=by simp[lT]
 have hh:(Builtin.zeroCells eD.cells k).toList=(List.range (k*eD.cells.toList.length)).map fun i=>eD.cells.toList[i%eD.cells.toList.length]! :=by
  simp only[Builtin.zeroCells,sm,wm,qd];exact gl fun i _=>by simp only[getElem!_def,lM]
 rw[←hh] at nY;have zs:(Builtin.zeroCells eD.cells k).size=k*shN ad:=by rw[size_zeroCells,lT]
 have uc:(Builtin.zeroCells eD.cells k++Builtin.zeroCells eD.cells (grownCap w k 0 e-k)).size=grownCap w k 0 e*shN ad:=by
  rw[Qj,size_zeroCells,size_zeroCells,lT,← ju]
  congr 1;omega
 have K0:(fP k z.cells).length=k*shN ad:=by have:=nY.1;rw[qd,zs] at this;omega
 obtain⟨h1,h2⟩:=al.alloc f (w.drew.alloc (.cells (Builtin.zeroCells eD.cells k++Builtin.zeroCells eD.cells (grownCap w k 0 e-k)) e)) (.cells (fP k z.cells)) _ rfl rfl rfl rfl rfl
  (.cells (by rw[uc,K0];exact qa _ iD) (fun j h h'=>by
   have az:j<(Builtin.zeroCells eD.cells k).size:=by omega
   have:=nY.2 j h (by simpa using az);rw[Qk az];simpa using this) (fun j _=>by simp) (zr mP k))
 refine⟨_,_,_,b8,.ak (hB _ _ _) iD (fun c ah=>by cases ah) (n:=grownCap w k 0 e*shN ad) ?_ (by omega) (fun _=>by omega),h1,h2⟩;have:(w.drew.alloc (.cells (Builtin.zeroCells eD.cells k++Builtin.zeroCells eD.cells (grownCap w k 0 e-k)) e)).heap[w.heap.size]? =some (.cells (Builtin.zeroCells eD.cells k++Builtin.zeroCells eD.cells (grownCap w k 0 e-k)) e):=by
  exact heap_alloc_new w.drew _
 unfold dU;rw[this];simp only[uc]
theorem Rel.a3R(al:Rel P I w m B){id ax since hk:Nat}{seen:List Nat}(hm:m id=some ax)(hg:I.get id=some (.mapIter none since seen hk)):w.heap[ax]? =some (.mapIter none since seen.toArray hk):=by
 obtain⟨b7,h1,h2⟩:=al.obj _ _ _ hm hg rfl;cases h2 with
 | @mapIter _ b _ _ _ hb=>
  cases b with
  |none=>exact h1
  |some b=>exact hb.elim
theorem Rel.RK(al:Rel P I w m B){id ax i since hk:Nat}{seen:List Nat}(hm:m id=some ax)(hg:I.get id=some (.mapIter (some i) since seen hk)):∃b,w.heap[ax]? =some (.mapIter (some b) since seen.toArray hk)∧m i=some b:=by
 obtain⟨b7,h1,h2⟩:=al.obj _ _ _ hm hg rfl;cases h2 with
 | @mapIter _ b _ _ _ hb=>
  cases b with
  |none=>exact hb.elim
  |some b=>exact⟨b,h1,hb⟩
theorem run_getObj_map{ax:Nat}{es:Array MapEntry}{aL:Nat}(h:w.heap[ax]? =some (.map es aL)):(getObj ax).run P w= .ok (.map es aL) w:=
 FU (P:=P) (w:=w) h (fun _ _ _ h=>by cases h)
theorem RL(J:Obj)(w:World):(newObj J).run P w= .ok w.heap.size (w.alloc J):=rfl
theorem RN(al:Rel P I w m B)(f:Nat){t k e:TypeId}(ht:P.underlying t=some (.map k e)){r:Option Nat}{u:Value}(hx:R w m (a_ I m) B (.m r) u){J:AO}
  (ab:match r with|none=>J= .mapIter none 0 [] 0|some id=>∃es aL,I.get id=some (.map es aL)∧J= .mapIter (some id) aL [] aL):
  ∃bR an aH,(Instr.range t u).run P w= .ok bR an∧R an aH (a_ (I.push J) aH) B (kY I.next 0) bR∧Rel P (I.push J) an aH B∧Ext f I w m (I.push J) an aH:=by
 cases r with
 |none=>
  simp only at ab;subst ab;cases hx;obtain⟨h1,h2⟩:=al.alloc f (w.alloc (.mapIter none 0 #[] 0)) (.mapIter none 0 [] 0) (.mapIter none 0 #[] 0) rfl rfl rfl rfl rfl (.mapIter trivial);exact⟨.pointer (some ⟨w.heap.size,0,none⟩),w.alloc (.mapIter none 0 #[] 0),_,by simp[Instr.range,run_underlying ht,RL],.p (hB _ _ _),h1,h2⟩
 |some id=>
  obtain⟨es,aL,hg,rfl⟩:=ab;obtain⟨ax,hm,rfl⟩:=hx.FH;obtain⟨dI,hh,_⟩:=al.B9 hm hg;obtain⟨h1,h2⟩:=al.alloc f (w.alloc (.mapIter (some ax) aL #[] aL)) (.mapIter (some id) aL [] aL) (.mapIter (some ax) aL #[] aL) rfl rfl rfl rfl rfl (.mapIter hm);exact⟨.pointer (some ⟨w.heap.size,0,none⟩),w.alloc (.mapIter (some ax) aL #[] aL),_,by simp[Instr.range,run_underlying ht,run_getObj_map hh,RL],.p (hB _ _ _),h1,h2⟩
theorem RO(n:Nat):∀(l:List Nat),oE n l=l.contains n
 |[]=>rfl
 |x::l=>by
  show cond (Nat.beq x n) true (oE n l)=_;rw[List.contains_cons,RO n l];have:(n==x)=Nat.beq x n:=by
   rw[oA,m3,beq_iff_eq];exact⟨fun h=>h.symm,fun h=>h.symm⟩
  rw[this];cases Nat.beq x n<;>rfl
theorem RR(seen:List Nat):∀(es:List kI),mM seen es=es.filter fun e=>!seen.contains e.2.2
 |[]=>rfl
 |e::es=>by
  show cond (oE e.2.2 seen) (mM seen es) (e::mM seen es)=_;rw[RR seen es,RO,AJ];cases seen.contains e.2.2<;>rfl
theorem K1{α β:Type}{r:α→β→Prop}{p:α→Bool}{q:β→Bool}(h:∀x y,r x y→p x=q y):∀ {l:List α} {cF:List β},ji r l cF→ji r (l.filter p) (cF.filter q)
 |[],[],_=>trivial
 |[],_::_,h'=>h'.elim
 |_::_,[],h'=>h'.elim
 |x::l,y::cF,h'=>by
  rw[AJ,AJ,h x y h'.1];cases q y with
  |true=>exact⟨h'.1,K1 h h'.2⟩
  |false=>exact K1 h h'.2
theorem RU(al:Rel P I w m B){f:Nat}{it ax i since:Nat}{seen:List Nat}(hf:f≤it)(hm:m it=some ax)(hg:I.get it=some (.mapIter (some i) since seen since)){es:List kI}(oQ:I.get i=some (.map es since))(a3S:∀e∈es,e.2.2<since)(t:TypeId):
  (mM seen es=[]∧(Instr.next (.pointer (some ⟨ax,0,none⟩)) false t).run P w= .ok (.tuple #[.bool false]) w)∨
  ∃e∈mM seen es,∃u an,(Instr.next (.pointer (some ⟨ax,0,none⟩)) false t).run P w= .ok u an∧
   R an m (a_ (I.set it (.mapIter (some i) since (seen++[e.2.2]) since)) m) B (.bJ [.b true,e.1,e.2.1]) u∧Rel P (I.set it (.mapIter (some i) since (seen++[e.2.2]) since)) an m B∧Ext f I w m (I.set it (.mapIter (some i) since (seen++[e.2.2]) since)) an m:=by
 obtain⟨b,hh,sH⟩:=al.RK hm hg;obtain⟨dI,K2,hall⟩:=al.B9 sH oQ;have vz:∀e∈dI.toList,e.born<since:=fun eb BZ=>by
  obtain⟨k,aD,rfl⟩:=gm BZ;have hlen:=xr hall;have:=xt hall k (by omega) aD;rw[this.2.2];exact a3S _ (aS _)
 have K3:ji (uf w m (a_ I m) B) (mM seen es) (leftOf dI seen.toArray).toList:=by
  rw[RR];have h1:(leftOf dI seen.toArray).toList=dI.toList.filter fun e=>!seen.contains e.born:=by simp[leftOf]
  rw[h1];exact K1 (fun x y h=>by rw[h.2.2]) hall
 have bZ:=(al.fa _ _ hm).1;rcases run_next_at (P:=P) w t ax b since since seen.toArray dI since hh K2 vz (o _) with⟨h1,h2⟩|⟨eb,BZ,aW,lU,h2⟩
 ·refine .inl ⟨?_,h2⟩;have:=xr K3;rw[qd,h1] at this;exact mI this.symm
 ·obtain⟨k,aD,rfl⟩:=gm BZ;have hlen:=xr K3;have sG:=xt K3 k (by omega) aD;refine .inr ⟨(mM seen es)[k]'(by omega),aS _,?_⟩;generalize(mM seen es)[k]'(by omega)=e at sG;generalize(leftOf dI seen.toArray).toList[k]=aM at sG h2;obtain⟨a3T,a3U,a3V⟩:=sG;have K4:aW.heap=w.heap:=by rcases lU with rfl|rfl<;>rfl
  have a3W:dU w ax=none:=by unfold dU;rw[hh]
  obtain⟨lo,ho⟩:=al.fq (f:=f) hf hm ⟨_,hg,rfl⟩ (setBlock aW ax (.mapIter (some b) since (seen.toArray.push aM.born) since)) (.mapIter (some i) since (seen++[e.2.2]) since)
   (by simp[setBlock,K4]) (fun k aD=>by simp[setBlock,K4,BB,oa aD]) (fun n hn=>by rw[a3W] at hn;cases hn)
   (by rcases lU with rfl|rfl<;>rfl) (by rcases lU with rfl|rfl<;>rfl) (by rcases lU with rfl|rfl<;>rfl)
   (fun _=>⟨.mapIter (some b) since (seen.toArray.push aM.born) since,by simp[setBlock,K4,BB,bZ],by
    have cj:seen.toArray.push aM.born=(seen++[e.2.2]).toArray:=by rw[a3V];simp
    rw[cj];exact .mapIter sH⟩)
  exact⟨_,_,h2,R.tX (bz.cons (.b true) (bz.cons (a3T.ext ho al) (bz.cons (a3U.ext ho al) bz.nil))),lo,ho⟩
theorem RX{pv:Nat}:∀ {es:List kI} {dI:List MapEntry} {e:kI},ji (uf w m (a_ I m) B) es dI→pe pv es=some e→∃eb,dI.find? (fun x=>x.born==pv)=some eb∧uf w m (a_ I m) B e eb
 |[],[],e,_,h=>by cases h
 |[],_::_,_,h,_=>h.elim
 |_::_,[],_,h,_=>h.elim
 |x::es,y::dI,e,hall,h=>by
  have h:cond (Nat.beq x.2.2 pv) (some x) (pe pv es)=some e:=h;have hb:(y.born==pv)=Nat.beq x.2.2 pv:=by
   rw[hall.1.2.2,oA,m3,beq_iff_eq]
  rw[List.find?_cons,hb];cases hq:Nat.beq x.2.2 pv with
  |true=>rw[hq] at h;cases h;exact⟨y,rfl,hall.1⟩
  |false=>rw[hq] at h;exact RX hall.2 h
theorem RZ:∀(l:List Nat),qi l=l.getLast?
 |[]=>rfl
 |x::l=>by
  have h:qi (x::l)=match qi l with|none=>some x|some y=>some y:=rfl
  rw[h,RZ l,List.getLast?_cons];cases l.getLast? <;>rfl
theorem a3X(al:Rel P I w m B){it ax i since aL:Nat}{seen:List Nat}(hm:m it=some ax)(hg:I.get it=some (.mapIter (some i) since seen aL)){es:List kI}(oQ:I.get i=some (.map es aL)){pv:Nat}(ar:qi seen=some pv){e:kI}(he:pe pv es=some e):
  ∃u,(Instr.entry (.pointer (some ⟨ax,0,none⟩))).run P w= .ok u w∧R w m (a_ I m) B (.bJ [e.1,e.2.1]) u:=by
 obtain⟨b,hh,sH⟩:=al.RK hm hg;obtain⟨dI,K2,hall⟩:=al.B9 sH oQ;obtain⟨eb,h1,h2⟩:=RX hall he;have vA:seen.toArray.back? =some pv:=by rw[RZ] at ar;simpa using ar
 have hf:dI.find? (fun x=>x.born==pv)=some eb:=by rw[←Array.find?_toList];exact h1
 refine⟨.tuple #[eb.key,eb.val],?_,R.tX (bz.cons h2.1 (bz.cons h2.2.1 bz.nil))⟩;simp only[Instr.entry,getObj,dZ,Sem.run,hh,K2,Result.andThen,vA,bne_self_eq_false,nO,if_false,hf];rfl
theorem a3Y(al:Rel P I w m B){it ax since hk:Nat}{seen:List Nat}(hm:m it=some ax)(hg:I.get it=some (.mapIter none since seen hk))(t:TypeId):
  (Instr.next (.pointer (some ⟨ax,0,none⟩)) false t).run P w= .ok (.tuple #[.bool false]) w:=by
 have hh:=al.a3R hm hg;simp only[Instr.next,getObj,dZ,Sem.run,hh,Result.andThen];rfl
end
end
end Go.Lyc
end
