/-
  An abstract executor of the program's code, and that it is sound, part 1. No conditions: definitions and laws.
-/
import GoSem.Step
import Derived.RangeFuncLeaves
import Derived.RecoverIn
import Derived.OrdersIn
import Derived.Laws.IdiomCopy
import Derived.Below
import Derived.MapKept
import Derived.Laws.Strings
import Derived.Deep.Upon
import Derived.Laws.IdiomStrings
import Derived.Laws.MakeOwn
import Derived.Lib.AppendZeros
import Derived.Maps.RangeRun
set_option linter.all false
noncomputable section
namespace Go.Lyc
theorem I{α:Sort _}{a:α}:a=a:=rfl
def br:=@Nat.le_refl
def o_:=@Nat.le_trans
def cJ:=@Option.some.injEq
def SG:=@Nat.mod_two_eq_zero_or_one
def fX:=@Nat.eq_of_beq_eq_true
def gH:=@Nat.beq_refl
def p9:=@Ne.symm
def lB:=@Nat.lt_succ_self
def gQ:=@Nat.blt_eq
def Ca:=@Nat.lt_succ_of_lt
def gp:=@List.length_cons
def FN:=@List.getElem?_cons_succ
def FO:=@Array.getElem?_setIfInBounds
def K3:=@Array.getElem?_setIfInBounds_ne
def xt:=@Array.getElem?_eq_some_iff
def K4:=@Array.getElem?_push
def K5:=@Nat.le_succ
def nC:=@Nat.lt_or_ge
def zt:=@Array.getElem?_eq_none
def mm:=@List.map_map
def uc:=@List.map_congr_left
def dx:=@List.mem_map
def sF:=@Array.length_toList
def jw:=@List.getElem_of_mem
def fC:=@List.getElem?_eq_some_iff
def cK:=@List.getElem?_eq_getElem
def g9:=@List.getElem_append_left
def ri:=@List.getElem_append_right
def K6:=@List.getElem_drop
def ud:=@List.getElem_take
def cu:=@List.mem_singleton
def eV:=@Go.Sem.run_bind
def e3:=@Go.Result.andThen_ok
def gI:=@List.length_take
def sG:=@Nat.add_zero
def pa:=@List.mem_of_mem_take
def og:=@List.mem_of_mem_drop
def sH:=@List.getElem?_drop
def p_:=@List.getElem?_take_of_lt
def b0:=@List.length_map
def lZ:=@List.length_range
def gB:=@Nat.le_of_ble_eq_true
def bJ:=@List.getElem_mem
def sI:=@Array.getElem?_eq_getElem
def eP:=@List.mem_append
def Cb:=@List.getElem?_append
def mn:=@Array.getElem?_toList
def e_:=@List.getElem_map
def ik:=@Go.Sem.run_pure
def K7:=@Int.emod_eq_of_lt
def SH:=@UInt8.lt_iff_toNat_lt
def rj:=@Bool.false_eq_true
def ue:=@List.cons.injEq
def pb:=@List.map_cons
def sJ:=@Bool.eq_iff_iff
def Cc:=@List.mem_cons_self
def iM:=@List.mem_cons_of_mem
def SI:=@Go.ByteArray.toList_eq
def m3:=@Array.ext'
def SJ:=@Go.MapKept.bytes_beq
def Cd:=@Int.natCast_nonneg
def du:=@Bool.and_eq_true
def qa:=@Bool.or_eq_true
def oh:=@Nat.beq_eq
def sK:=@Int.ofNat.inj
def sL:=@Nat.lt_of_le_of_lt
def K8:=@Nat.div_le_self
def vG:=@Nat.add_assoc
def il:=@Option.some.inj
def FP:=@Option.map_some
def FQ:=@List.map_take
def jL:=@Nat.add_mul
def rk:=@Nat.mul_le_mul_right
def k0:=@Nat.zero_le
def SK:=@Array.mapM_eq_mapM_toList
def qb:=@Nat.one_mul
def uf:=@Nat.add_comm
def g_:=@List.map_append
def oi:=@List.eq_nil_of_length_eq_zero
def xu:=@List.ext_getElem
def qc:=@List.getElem_range
def xv:=@Array.toList_range
def ug:=@Array.toList_map
def K9:=@Array.getElem!_eq_getD
def qd:=@Array.getD_eq_getD_getElem?
def lC:=@List.flatMap_cons
def dF:=@List.mem_cons
def zu:=@List.mem_flatMap
def Ce:=@List.getElem_cons_zero
def oj:=@List.length_pos_iff
def SL:=@Nat.one_le_iff_ne_zero
def SM:=@Nat.mul_le_mul_left
def SN:=@Array.size_append
def c4:=@List.length_append
def SO:=@Array.getElem_append_left
def j7:=@Nat.ble_eq_true_of_le
def nD:=@List.drop_drop
def FR:=@List.getElem_cons_succ
def FT:=@List.forIn_cons
def SP:=@List.zip_cons_cons
def K_:=@Bool.and_self
def uh:=@Bool.not_eq_true'
def m4:=@List.all_eq_true
def Cf:=@Nat.sub_self
def mo:=@List.length_set
def ui:=@List.getElem_set
def uj:=@List.filter_cons
def fq:=@Option.map_eq_some_iff
def en:=@Option.bind_eq_bind
def dP:=@Option.bind_eq_some_iff
def eK:=@Option.pure_def
def Cg:=@List.cons_append
def SQ:=@List.take_succ_cons
def FU:=@List.drop_zero
def FV:=@Nat.le_add_right
def SR:=@Nat.add_sub_cancel_left
theorem U{P:Prop}(h:P:=by omega):P:=h
theorem aG{P:Prop}(h:P:=by simp):P:=h
theorem ca{P:Prop}(h:P:=by decide):P:=h
set_option maxHeartbeats 0
inductive AV where
 |b (x:Bool)
 |i (k:IntKind) (n:Int)
 |s (l:List Nat)
 |p (a:Option (Nat×Nat))
 |dG (old:Bool) (v:AV)
 |ao (id off len:Nat) (aa:Option Nat) (cap:Option Nat)
 |af
 |a_ (old:Bool) (aa:Option Nat) (xs:List AV)
 |m (r:Option Nat)
 |f (fn:Fn) (first captured:List AV)
 |d_
 |it (t:TypeId) (v:AV)
 |fJ
 |ah (l:List AV)
 |a9 (l:List AV)
 |hc (k:IntKind) (d j:Nat) -- a c5i number,of SS is known FW it leaves by d
 |hP (ex:List (List Nat)) -- a string,none of a6k
 |im (hi:Bool) -- Ch i64 Ci is not known:c5j it is c5k c5l 40
 |y (i:Nat) -- a string,Ch integer Ci is not known
 |gi (old:Bool) (i:Nat) -- a slice Ci is not known,over memory Ci never changes
 deriving Inhabited
inductive aI where
 |t (i:Nat)
 |c (v:AV)
 |g (g:Nat)
 deriving Inhabited
inductive sM where
 |fn (f:Nat)
 |val (o:aI)
 deriving Inhabited
inductive AOp where
 |bh (x:aI)
 |pick (c a b:aI)
 |alloc (v:AV)
 |box (x:aI)
 |build (zero:List AV) (parts:List (Nat×Nat×aI)) -- offset,cells,FW
 |buildSlice (aa:Option Nat) (len:Nat) (zero:List AV) (parts:List (Nat×aI))
 |load (aa:Option Nat) (a:aI)
 |store (aa:Option Nat) (a x:aI)
 |nilCheck (x:aI)
 |bin (op:BinOp) (x y:aI)
 |zv (neg:Bool) (x y:aI)
 |j8 (kind:Nat) (neg:Bool) (x y:aI) -- kind:0 interface,1 pointer,2 function,3 slice,4 map;from 10 on:structs
 |not (x:aI)
 |neg (x:aI)
 |conv (k:IntKind) (x:aI)
 |Cj (x:aI)
 |FX (x:aI)
 |FY (t:TypeId) (x:aI)
 |fM (fn:Fn) (first captured:List aI)
 |mkMap
 |mkSlice (aa:Option Nat) (bytes:Nat) (zero:List AV) (len cap:aI)
 |vH (n:Nat) (aa:Option Nat) (x:aI) (c5 hi:Option aI)
 |m5 (aa:Option Nat) (x:aI) (c5 hi fG:Option aI)
 |iN (x:aI) (c5 hi:Option aI)
 |fieldAddr (off:Nat) (aa:Option Nat) (x:aI)
 |field (off:Nat) (aa:Option Nat) (x:aI)
 |rl (n:Nat) (aa:Option Nat) (x i:aI)
 |bj (aa:Option Nat) (x i:aI)
 |k1 (x i:aI)
 |zw (n:Nat) (aa:Option Nat) (x i:aI)
 |lookup (aa:Nat ⊕ List Nat) (x k:aI) (zero:AV) (ok:Bool) -- uk c5m shape
 |j9 (aa:Nat ⊕ List Nat) (m k v:aI)
 |rangeMap (x:aI)
 |sN (x:aI)
 |entry (x:aI)
 |FZ (x:aI) (t:TypeId) (zero:AV) (ok:Bool)
 |extract (x:aI) (i:Nat)
 |call (c:sM) (args:List aI)
 |k2 (c:sM) (args:List aI)
 |panic (x:aI)
 |append (aa:Option Nat) (bytes:Nat) (s x:aI)
 |len (kind:Nat) (x:aI) -- 0:string;1:slice;2:map
 |F0 (n:Nat)
 |cap (x:aI)
 |copy (aa:Option Nat) (d s:aI)
 |rm (fG:Bool) (x y:aI)
 |recover
 |bad
 deriving Inhabited
structure a3 where
 dst:Option Nat
 op:AOp
 guard:Option (Nat×Bool) -- uk a6l,and FW it c5n be
 j_:List Nat -- of a region Ci c5o:uk places ahead of SS it may c5p,c5q
 deriving Inhabited
inductive bO where
 |skip
 |region (ops:List a3)
 |draw (ops:List a3)
 |seq (a b:bO)
 |cond (c:aI) (a b:bO)
 |block (id:Nat) (a:bO)
 |loop (a:bO)
 |scope (a:bO)
 |rangeFunc (f:aI) (aE:List Nat) (assign body:bO)
 |exit (id:Nat)
 |ret
 |bad
 deriving Inhabited
structure aP where
 kr:Nat
 ntmps:Nat
 results:List (Nat×Option (Option Nat)) -- uk a6l;none:by value;some aa:a cell of Ci shape
 body:Option bO
 deriving Inhabited
inductive a1(α:Type) where
 |nil
 |node (v:Option α) (l r:a1 α)
 deriving Inhabited
def a1.get{α:Type}(t:a1 α):Nat->Option α:=
 a1.rec (λ_=>none) (λv _ _ g0 Ck i=>Bool.rec (motive:=λ_=>Option α) (Bool.rec (motive:=λ_=>Option α) (Ck (Nat.div (Nat.sub i 1) 2)) (g0 (Nat.div (Nat.sub i 1) 2)) (Nat.beq (Nat.mod i 2) 1)) v (Nat.beq i 0)) t
def a1.set{α:Type}(t:a1 α):Nat->α->a1 α:=
 a1.rec (λ_ _=>.nil) (λv l r g0 Ck i x=>Bool.rec (motive:=λ_=>a1 α) (Bool.rec (motive:=λ_=>a1 α) (.node v l (Ck (Nat.div (Nat.sub i 1) 2) x)) (.node v (g0 (Nat.div (Nat.sub i 1) 2) x) r) (Nat.beq (Nat.mod i 2) 1))
  (.node (Option.rec (motive:=λ_=>Option α) none (λ_=>some x) v) l r) (Nat.beq i 0)) t
def a1.zx{α:Type}(f:Nat):Nat->α->a1 α:=
 Nat.rec (λ_ _=>.nil) (λ_ aH i x=>Bool.rec (motive:=λ_=>a1 α) (Bool.rec (motive:=λ_=>a1 α) (.node none .nil (aH (Nat.div (Nat.sub i 1) 2) x)) (.node none (aH (Nat.div (Nat.sub i 1) 2) x) .nil) (Nat.beq (Nat.mod i 2) 1)) (.node (some x) .nil .nil) (Nat.beq i 0)) f
def a1.ins{α:Type}(t:a1 α):Nat->α->a1 α:=
 a1.rec (λi x=>a1.zx (i+1) i x) (λv l r g0 Ck i x=>Bool.rec (motive:=λ_=>a1 α) (Bool.rec (motive:=λ_=>a1 α) (.node v l (Ck (Nat.div (Nat.sub i 1) 2) x)) (.node v (g0 (Nat.div (Nat.sub i 1) 2) x) r) (Nat.beq (Nat.mod i 2) 1))
  (.node (some x) l r) (Nat.beq i 0)) t
def a1.full{α:Type}(f:Nat)(x:α):Nat->a1 α:=
 Nat.rec (λ_=>.nil) (λ_ aH n=>cond (Nat.beq n 0) .nil (.node (some x) (aH (Nat.div n 2)) (aH (Nat.div (Nat.sub n 1) 2)))) f
def a1.lay{α:Type}(l:List α):Nat->a1 α->a1 α:=
 List.rec (λ_ t=>t) (λx _ aH i t=>aH (i+1) (t.set i x)) l
inductive rn where
 |h
 |l (p:rn)
 |r (p:rn)
def xw(f:Nat):Nat->rn:=
 Nat.rec (motive:=λ_=>Nat->rn) (λ_=>.h) (λ_ aH i=>Bool.rec (motive:=λ_=>rn) (Bool.rec (motive:=λ_=>rn) (.r (aH (Nat.div (Nat.sub i 1) 2))) (.l (aH (Nat.div (Nat.sub i 1) 2))) (Nat.beq (Nat.mod i 2) 1)) .h (Nat.beq i 0)) f
def La(i:Nat):rn:=xw (Nat.succ i) i
def a1.F1{α:Type}(p:rn):a1 α->Option α:=
 rn.rec (motive:=λ_=>a1 α->Option α) (λt=>a1.rec (motive:=λ_=>Option α) none (λv _ _ _ _=>v) t) (λ_ aH t=>a1.rec (motive:=λ_=>Option α) none (λ_ l _ _ _=>aH l) t)
  (λ_ aH t=>a1.rec (motive:=λ_=>Option α) none (λ_ _ r _ _=>aH r) t) p
def a1.SU{α:Type}(x:α)(p:rn):a1 α->a1 α:=
 rn.rec (motive:=λ_=>a1 α->a1 α) (λt=>a1.rec (motive:=λ_=>a1 α) .nil (λv l r _ _=>.node (Option.rec (motive:=λ_=>Option α) none (λ_=>some x) v) l r) t)
  (λ_ aH t=>a1.rec (motive:=λ_=>a1 α) .nil (λv l r _ _=>.node v (aH l) r) t) (λ_ aH t=>a1.rec (motive:=λ_=>a1 α) .nil (λv l r _ _=>.node v l (aH r)) t) p
inductive AO where
 |cells (c:List AV)
 |dead
 |map (es:List (AV×AV×Nat)) (clock:Nat)
 |mapIter (m:Option Nat) (since:Nat) (seen:List Nat) (g1:Nat)
 |loop (st:LoopState) (pending:Option bO) (bf:a1 AV) (aE:List Nat) (assign body:bO) (eo:Nat)
 |eo
 deriving Inhabited
structure ae where
 xx:a1 AO
 next:Nat
 deriving Inhabited
def mapO{α β:Type}(f:α->Option β)(l:List α):Option (List β):=
 List.rec (some []) (λx _ aH=>match f x with|none=>none|some y=>match aH with|none=>none|some ba=>some (y::ba)) l
def nth{α:Type}(l:List α):Nat->Option α:=
 List.rec (λ_=>none) (λx _ aH n=>Nat.rec (some x) (λn _=>aH n) n) l
def eqL(l:List Nat):List Nat->Bool:=
 List.rec (λr=>match r with|[]=>true|_::_=>false) (λx _ aH r=>match r with|[]=>false|y::ba=>cond (Nat.beq x y) (aH ba) false) l
def hZ(l:List Nat):List Nat->Bool:=
 List.rec (λr=>match r with|[]=>false|_::_=>true)
  (λx _ aH r=>match r with
   |[]=>false
   |y::ba=>cond (Nat.blt x y) true (cond (Nat.beq x y) (aH ba) false)) l
def fY{α:Type}(f:α->α->Bool)(l:List α):List α->Bool:=
 List.rec (λr=>match r with|[]=>true|_::_=>false) (λx _ aH r=>match r with|[]=>false|y::ba=>cond (f x y) (aH ba) false) l
def ae.get(J:ae)(id:Nat):Option AO:=cond (Nat.blt id J.next) (J.xx.get id) none
def ae.set(J:ae)(id:Nat)(o:AO):ae:=⟨J.xx.ins id o,J.next⟩
def ae.push(J:ae)(o:AO):ae:=⟨J.xx.ins J.next o,J.next+1⟩
def AV.cells:AV->List AV
 | .ah l=>l
 |v=>[v]
def AV.val:AV->Bool
 | .a9 _=>false
 |_=>true
def shN:Option Nat->Nat
 |none=>1
 |some n=>n
def dU(aa:Option Nat)(c:List AV):Option AV:=
 match aa with
 |none=>c.head?
 |some n=>let l:=c.take n;if l.length=n then some (.ah l) else none
def conf(aa:Option Nat)(v:AV):Bool:=
 match aa,v with
 |none,.ah _=>false
 |none,.a9 _=>false
 |none,_=>true
 |some n,.ah l=>Nat.beq l.length n
 |some _,_=>false
def elems(aa:Option Nat)(n:Nat)(c:List AV):Option (List AV):=
 Nat.rec (motive:=λ_=>List AV->Option (List AV)) (λ_=>some [])
  (λ_ aH c=>match dU aa c with
   |none=>none
   |some v=>match aH (c.drop (shN aa)) with|none=>none|some bo=>some (v::bo)) n c
def readList(J:ae):AV->Option (List AV)
 | .af=>some []
 | .a_ _ _ xs=>some xs
 | .ao id off len aa _=>match J.get id with
  |some (.cells c)=>elems aa len (c.drop off)
  |_=>none
 |_=>none
def freeze(J:ae)(base:Nat)(n:Nat):AV->Option AV:=
 Nat.rec (motive:=λ_=>AV->Option AV) (λ_=>none) (λ_ aH v=>
  match v with
  | .ao id off len aa cap=>if Nat.blt id base then none else
   match readList J (.ao id off len aa cap) with
   |none=>none
   |some xs=>match mapO aH xs with|none=>none|some xs=>some (.a_ false aa xs)
  | .ah l=>match mapO aH l with|none=>none|some l=>some (.ah l)
  | .a9 l=>match mapO aH l with|none=>none|some l=>some (.a9 l)
  | .it t v=>match aH v with|none=>none|some v=>some (.it t v)
  | .p (some _)=>none
  | .m (some _)=>none
  | .f _ _ _=>none
  |v=>some v) n
def bT(J:ae)(n:Nat):AV->Option AV:=
 Nat.rec (motive:=λ_=>AV->Option AV) (λ_=>none) (λ_ aH v=>
  match v with
  | .ao id off len aa cap=>
   match readList J (.ao id off len aa cap) with
   |none=>none
   |some xs=>match mapO aH xs with|none=>none|some xs=>some (.a_ true aa xs)
  | .af=>some .af
  | .a_ _ aa xs=>match mapO aH xs with|none=>none|some xs=>some (.a_ true aa xs)
  | .ah l=>match mapO aH l with|none=>none|some l=>some (.ah l)
  | .a9 l=>match mapO aH l with|none=>none|some l=>some (.a9 l)
  | .it t v=>match aH v with|none=>none|some v=>some (.it t v)
  | .p (some _)=>none
  | .m (some _)=>none
  | .dG _ _=>none
  | .f _ _ _=>none
  | .gi _ i=>some (.gi true i)
  |v=>some v) n
def AV.eqb(n:Nat):AV->AV->Bool:=
 Nat.rec (motive:=λ_=>AV->AV->Bool) (λ_ _=>false) (λ_ aH x y=>
  match x,y with
  | .b x,.b y=>x==y
  | .i k x,.i l y=>decide (k=l)&&decide (x=y)
  | .s x,.s y=>eqL x y
  | .af,.af=>true
  | .a_ um aa xs,.a_ cV hz ba=>(um==cV)&&decide (aa=hz)&&fY aH xs ba
  | .d_,.d_=>true
  | .fJ,.fJ=>true
  | .p none,.p none=>true
  | .p (some x),.p (some y)=>Nat.beq x.1 y.1&&Nat.beq x.2 y.2
  | .m none,.m none=>true
  | .m (some x),.m (some y)=>Nat.beq x y
  | .ao a2 bm cx ep eW,.ao er dy dV fl l0=>Nat.beq a2 er&&Nat.beq bm dy&&Nat.beq cx dV&&decide (ep=fl)&&decide (eW=l0)
  | .dG um x,.dG cV y=>(um==cV)&&aH x y
  | .f aB fR x,.f fb Lb y=>decide (aB=fb)&&(fY aH fR Lb&&fY aH x y)
  | .it t x,.it u y=>Nat.beq t u&&aH x y
  | .ah x,.ah y=>fY aH x y
  | .a9 x,.a9 y=>fY aH x y
  | .hc k d j,.hc eR je sO=>decide (k=eR)&&(Nat.beq d je&&Nat.beq j sO)
  | .hP x,.hP y=>fY eqL x y
  | .im c,.im d=>c==d
  | .y c,.y d=>Nat.beq c d
  | .gi um c,.gi cV d=>(um==cV)&&Nat.beq c d
  |_,_=>false) n
def qe(a:List Nat)(ex:List (List Nat)):Bool:=List.rec false (λx _ aH=>cond (eqL a x) true aH) ex
def leafEq(kind:Nat)(a b:AV):Option Bool:=
 match kind,a,b with
 |0,.i k a,.i l b=>if k=l then some (decide (a=b)) else none
 |1,.s a,.s b=>some (eqL a b)
 |2,.b x,.b y=>some (x==y)
 |1,.hP ex,.s b=>cond (qe b ex) (some false) none
 |1,.s a,.hP ex=>cond (qe a ex) (some false) none
 |_,_,_=>none
def mq(bz:List Nat):List AV->List AV->Option Bool:=
 List.rec (λl r=>match l,r with|[],[]=>some true|_,_=>none)
  (λk _ aH l r=>match l,r with
   |x::xs,y::ba=>match leafEq k x y,aH xs ba with|some a,some b=>some (a&&b)|_,_=>none
   |_,_=>none) bz
abbrev ks:=Nat ⊕ List Nat
def keyEq(aa:ks)(a b:AV):Option Bool:=
 match aa with
 | .inl k=>leafEq k a b
 | .inr bz=>match a,b with
  | .ah x,.ah y=>mq bz x y
  |_,_=>none
def keySelf(aa:ks)(a:AV):Bool:=
 match aa,a with
 | .inl 1,.hP _=>true
 |aa,a=>match keyEq aa a a with|some _=>true|none=>false
def Cl(aa:ks)(k:AV)(es:List (AV×AV×Nat)):Option (Option AV):=
 List.rec (some none) (λe _ aH=>match keyEq aa k e.1 with|none=>none|some true=>some (some e.2.1)|some false=>aH) es
def qf(aa:ks)(k v:AV)(es:List (AV×AV×Nat)):Option (Option (List (AV×AV×Nat))):=
 List.rec (some none) (λe es aH=>match keyEq aa k e.1 with
  |none=>none
  |some true=>some (some ((k,v,e.2.2)::es))
  |some false=>match aH with|none=>none|some none=>some none|some (some es)=>some (some (e::es))) es
def storeCells(c:List AV)(off:Nat)(v:List AV):Option (List AV):=
 if Nat.ble (off+v.length) c.length then some (c.take off++(v++c.drop (off+v.length))) else none
def wrapN(k:IntKind)(n:Int):Int:=
 match k,n with
 | .i64,.ofNat x=>cond (Nat.blt x 9223372036854775808) n (k.wrap n)
 |_,n=>k.wrap n
def SV(op:BinOp)(k:IntKind)(x y:Int):Option Int:=
 let a:=BitVec.ofInt k.bits x
 let b:=BitVec.ofInt k.bits y
 match op with
 | .and=>some (k.wrap (a &&& b).toNat)
 | .or=>some (k.wrap (a ||| b).toNat)
 | .xor=>some (k.wrap (a ^^^ b).toNat)
 | .andNot=>some (k.wrap (a &&& ~~~b).toNat)
 |_=>none
def binI(op:BinOp)(k:IntKind)(x y:Int):Option AV:=
 match op with
 | .add=>some (.i k (wrapN k (x+y)))
 | .sub=>some (.i k (wrapN k (x-y)))
 | .mul=>some (.i k (wrapN k (x*y)))
 | .quo=>if y=0 then none else some (.i k (k.wrap (x.tdiv y)))
 | .rem=>if y=0 then none else some (.i k (x.tmod y))
 | .eql=>some (.b (decide (x=y)))
 | .neq=>some (.b (!decide (x=y)))
 | .lss=>some (.b (decide (x<y)))
 | .leq=>some (.b (decide (x<=y)))
 | .gtr=>some (.b (decide (y<x)))
 | .geq=>some (.b (decide (y<=x)))
 |op=>match SV op k x y with|some n=>some (.i k n)|none=>none
def binS(op:BinOp)(x y:List Nat):Option AV:=
 match op with
 | .add=>if Nat.blt (x.length+y.length) 4611686018427387904 then some (.s (x++y)) else none
 | .eql=>some (.b (eqL x y))
 | .neq=>some (.b (!eqL x y))
 | .lss=>some (.b (hZ x y))
 | .leq=>some (.b (!hZ y x))
 | .gtr=>some (.b (hZ y x))
 | .geq=>some (.b (!hZ x y))
 |_=>none
def sxEq(op:BinOp)(a:List Nat)(ex:List (List Nat)):Option AV:=
 cond (qe a ex) (match op with| .eql=>some (.b false)| .neq=>some (.b true)|_=>none) none
def umOp(op:BinOp)(k:IntKind)(d j c:Nat):Option AV:=
 cond (Nat.blt 0 c&&(Nat.beq (d%c) 0&&(decide (k= .u8)||decide (k= .i64))))
  (match op with
   | .rem=>some (.i k (Int.ofNat (j%c)))
   | .quo=>some (.hc k (d/c) (j/c))
   |_=>none) none
def binop(op:BinOp)(x y:AV):Option AV:=
 match x,y with
 | .i k a,.i l b=>match op with
  | .shl=>if b<0 then none else some (.i k (k.wrap (a*2^(min b.toNat k.bits))))
  | .shr=>if b<0 then none else some (.i k (a.fdiv (2^(min b.toNat k.bits))))
  |op=>if k=l then binI op k a b else none
 | .s a,.s b=>binS op a b
 | .hc k d j,.i l (.ofNat c)=>if k=l then umOp op k d j c else none
 | .im hi,.i l (.ofNat c)=>if l= .i64/\c=40 then(match op with| .gtr=>some (.b hi)| .leq=>some (.b (!hi))|_=>none) else none
 | .s a,.hP ex=>sxEq op a ex
 | .hP ex,.s a=>sxEq op a ex
 |_,_=>none
def binopB(x y:AV):Option Bool:=
 match x,y with
 | .b c,.b d=>some (c==d)
 |_,_=>none
def F2:List Nat->Nat
 |[]=>1
 |d::ds=>F2 ds*4+d
def SW(f:Nat):Nat->List Nat:=Nat.rec (motive:=λ_=>Nat->List Nat) (λ_=>[]) (λ_ aH n=>cond (Nat.ble n 1) [] (Nat.mod n 4::aH (Nat.div n 4))) f
def isNilEq(kind:Nat)(x y:AV):Option Bool:=
 match kind,x,y with
 |0,.it _ _,.fJ=>some false
 |1,.p (some _),.p none=>some false
 |1,.dG _ _,.p none=>some false
 |1,.p none,.p none=>some true
 |2,.f _ _ _,.d_=>some false
 |2,.d_,.d_=>some true
 |3,.af,.af=>some true
 |3,.ao _ _ _ _ _,.af=>some false
 |3,.a_ _ _ (_::_),.af=>some false
 |4,.m none,.m none=>some true
 |4,.m (some _),.m none=>some false
 |k,.ah x,.ah y=>cond (Nat.ble 10 k) (mq (SW 40 (k-10)) x y) none
 |_,_,_=>none
def natOf:AV->Option Nat
 | .i _ (.ofNat n)=>some n
 |_=>none
def ea:AV:=.a9 []
structure Fr where
 bf:a1 AV
 defers:List (Nat ⊕ (AV×List AV)) -- uk mark of a block,or a call
 fS:Bool -- of a deferred call: 'recover' has c5r called
 deriving Inhabited
def Fr.put(ad:Fr)(d:Option Nat)(v:AV):Fr:=
 match d with
 |some d=>⟨ad.bf.set d v,ad.defers,ad.fS⟩
 |none=>ad
def Fr.om(ad:Fr)(d:Option Nat)(v:AV):Fr:=Option.rec (motive:=λ_=>Fr) ad (λd=>⟨a1.SU v (La d) ad.bf,ad.defers,ad.fS⟩) d
inductive fN where
 |normal|exit (id:Nat)|ret|panic (v:AV)
 deriving Inhabited
inductive et where
 |ok (v:AV)
 |err (v:AV)
 deriving Inhabited
structure Env where
 funcs:Nat->Option aP
 mr:Nat->Option AV
 pure:Nat->Bool
 spec:Nat->List AV->Option AV
 bt:Nat -- c5s deep values c5t looked at
 ext:Nat->Nat -- 1:c5u,2:c5v,3:c5w;0:none
def evalA(env:Env)(ao:a1 AV):aI->Option AV
 | .t i=>ao.get i
 | .c v=>some v
 | .g g=>match env.mr g with|some v=>some (.dG true v)|none=>none
def zy(env:Env)(ao:a1 AV)(x:aI):Option AV:=
 aI.rec (motive:=λ_=>Option AV) (λi=>a1.F1 (La i) ao) (λv=>some v) (λg=>match env.mr g with|some v=>some (.dG true v)|none=>none) x
inductive bV where
 |val (v:AV) (J:ae)
 |call (cr:AV) (args:List AV)
 |k2 (cr:AV) (args:List AV)
 |panic (v:AV)
 |jM (l:List (AV×ae)) -- one of a6k
def oo{α β:Type}(f:α->Option (List β))(l:List α):Option (List β):=
 List.rec (motive:=λ_=>Option (List β)) (some []) (λx t aH=>List.rec (motive:=λ_=>Option (List β)) (f x) (λ_ _ _=>match f x with|none=>none|some a=>match aH with|none=>none|some b=>some (a++b)) t) l
def hB{α β:Type}(r:Option (List α))(f:α->Option (List β)):Option (List β):=Option.rec (motive:=λ_=>Option (List β)) none (λl=>oo f l) r
def jN(n:Nat)(off:Nat):AV:=.p (some (n,off))
def h4(ar:aI->Option AV)(bS:Nat->Nat->Nat)(aE:List (Nat×Nat×aI)):List AV->Option (List AV):=
 List.rec (λc=>some c) (λp _ aH c=>match ar p.2.2 with
  |none=>none
  |some v=>cond (Nat.beq v.cells.length p.2.1&&v.val) (match storeCells c (bS p.1 p.2.1) v.cells with|none=>none|some c=>aH c) none) aE
def g2(n:Nat)(z:List AV):List AV:=Nat.rec [] (λ_ aH=>z++aH) n
def bndO(ar:aI->Option AV)(x:Option aI)(d:Nat):Option Nat:=
 match x with
 |none=>some d
 |some x=>match ar x with|some v=>natOf v|none=>none
def v2(two:Bool)(v:AV)(ok:Bool):AV:=cond two (.a9 [v,.b ok]) v
def nilOk:AV->Bool
 | .p (some _)=>true
 | .dG _ _=>true
 | .f _ _ _=>true
 | .it _ _=>true
 |_=>false
def cP{α:Type}(p:α->Bool)(l:List α):Bool:=List.rec true (λx _ aH=>cond (p x) aH false) l
def newOf(J:ae)(x:AV):Option (List AV):=
 match x with
 | .s l=>some (l.map λc=>AV.i .u8 (Int.ofNat c))
 |x=>readList J x
def appendO(floor:Nat)(J:ae)(aa:Option Nat)(bytes:Nat)(s x:AV):Option (AV×ae):=
 match readList J s,newOf J x with
 |some old,some new=>
  cond (cP (conf aa) old&&cP (conf aa) new&&Nat.ble ((3*(old.length+new.length)+2000)*bytes) 281474976710656)
   (match new with
    |[]=>some (s,J)
    |_::_=>match s with
     | .ao id off len hz cap=>
      if hz=aa then
       match cap with
       |some c=>
        cond (Nat.ble (len+new.length) c)
         (if Nat.blt id floor then none else
         match J.get id with
         |some (.cells sP)=>match storeCells sP (off+len*shN aa) (new.flatMap AV.cells) with
          |some gC=>some (.ao id off (len+new.length) aa cap,J.set id (.cells gC))
          |none=>none
         |_=>none)
         (some (.ao J.next 0 (len+new.length) aa none,J.push (.cells (old.flatMap AV.cells++new.flatMap AV.cells))))
       |none=>
        if Nat.blt id floor then none else
        if Nat.beq off 0 then
         some (.ao J.next 0 (len+new.length) aa none,(J.set id .dead).push (.cells (old.flatMap AV.cells++new.flatMap AV.cells)))
        else none
      else none
     | .af=>some (.ao J.next 0 new.length aa none,J.push (.cells (new.flatMap AV.cells)))
     |_=>none)
   none
 |_,_=>none
def sliceA(ar:aI->Option AV)(kt:Option Nat)(x:AV)(c5 hi fG:Option aI):Option AV:=
 match x with
 | .ao id off len aa cap=>
  if aa=kt then
   match bndO ar c5 0,bndO ar hi len with
   |some l,some h=>
    if Nat.ble l h then
     match fG with
     |some fG=>match bndO ar (some fG) 0 with
      |some k=>
       if Nat.ble h k&&Nat.ble k (cap.getD len) then some (.ao id (if k=l then off else off+l*shN aa) (h-l) aa (some (k-l))) else none
      |none=>none
     |none=>match cap with
      |some c=>if Nat.ble h c then some (.ao id (if c=l then off else off+l*shN aa) (h-l) aa (some (c-l))) else none
      |none=>if Nat.ble h len&&Nat.beq l 0 then some (.ao id off h aa none) else if Nat.ble h len&&Nat.blt l len then some (.ao id (off+l*shN aa) (h-l) aa none) else if Nat.beq l len&&Nat.beq h len then some (.a_ true aa []) else none
    else none
   |_,_=>none
  else none
 | .af=>match bndO ar c5 0,bndO ar hi 0,bndO ar fG 0 with
  |some 0,some 0,some 0=>some .af
  |_,_,_=>none
 | .a_ o aa xs=>if aa=kt then
   match bndO ar c5 0,bndO ar hi xs.length,fG with
   |some l,some h,none=>if Nat.ble l h&&Nat.ble h xs.length then some (.a_ o aa ((xs.drop l).take (h-l))) else none
   |_,_,_=>none
  else none
 |_=>none
def lookupA(J:ae)(aa:ks)(x k z:AV)(two:Bool):Option AV:=
 cond (keySelf aa k)
  (match x with
  | .m none=>some (v2 two z false)
  | .m (some id)=>match J.get id with
   |some (.map es _)=>match Cl aa k es with
    |some (some v)=>some (v2 two v true)
    |some none=>some (v2 two z false)
    |none=>none
   |_=>none
  |_=>none) none
def capA(x:AV):Option Nat:=
 match x with
 | .af=>some 0
 | .ao _ _ _ _ (some c)=>some c
 |_=>none
def lenA(J:ae)(k:Nat)(x:AV):Option Nat:=
 match k,x with
 |0,.s l=>some l.length
 |1,.af=>some 0
 |1,.ao _ _ n _ _=>some n
 |1,.a_ _ _ xs=>some xs.length
 |2,.m none=>some 0
 |2,.m (some id)=>match J.get id with|some (.map es _)=>some es.length|_=>none
 |_,_=>none
def calleeV(ar:aI->Option AV)(c:sM):Option AV:=match c with| .fn f=>some (AV.f (.func f) [] [])| .val x=>ar x
def rp(J:ae)(aa:Option Nat)(p:AV):Option AV:=
 match p with
 | .p (some (id,off))=>match J.get id with
  |some (.cells c)=>dU aa (c.drop off)
  |_=>none
 | .dG _ v=>if conf aa v then some v else none
 |_=>none
def fieldAddrA(off:Nat)(aa:Option Nat)(x:AV):Option AV:=
 match x with
 | .p (some (id,o))=>some (.p (some (id,o+off)))
 | .dG ol (.ah cs)=>match dU aa (cs.drop off) with|some v=>some (.dG ol v)|none=>none
 |_=>none
def idxSlA(kt:Option Nat)(x:AV)(j:Nat):Option AV:=
 match x with
 | .ao id off len aa _=>if Nat.blt j len&&decide (aa=kt) then some (.p (some (id,off+j*shN aa))) else none
 | .a_ o aa xs=>if aa=kt then match nth xs j with|some v=>some (.dG o v)|none=>none else none
 |_=>none
def assertA(x:AV)(t:TypeId)(z:AV)(two:Bool):Option AV:=
 match x with
 | .it u v=>if u=t then some (v2 two v true) else cond two (some (v2 two z false)) none
 | .fJ=>cond two (some (v2 two z false)) none
 |_=>none
def byteOf:AV->Option Nat
 | .i .u8 (.ofNat n)=>cond (Nat.blt n 256) (some n) none
 |_=>none
def oq(n:Nat)(l:List Nat):Bool:=List.rec false (λx _ aH=>cond (Nat.beq x n) true aH) l
def mu(seen:List Nat)(es:List (AV×AV×Nat)):List (AV×AV×Nat):=List.rec [] (λe _ aH=>cond (oq e.2.2 seen) aH (e::aH)) es
def qg(l:List Nat):Option Nat:=List.rec none (λx _ aH=>match aH with|none=>some x|some y=>some y) l
def pc(b:Nat)(es:List (AV×AV×Nat)):Option (AV×AV×Nat):=List.rec none (λe _ aH=>cond (Nat.beq e.2.2 b) (some e) aH) es
def lenU(J:ae)(k:Nat)(x:AV):Option bV:=
 match k,x with
 |0,.hP _=>some (.jM [(.im true,J),(.im false,J)])
 |_,_=>none
def opx(floor:Nat)(ar:aI->Option AV)(J:ae)(op:AOp):Option bV:=
 match op with
 | .bh x=>match ar x with|some v=>some (.val v J)|none=>none
 | .pick c a b=>match ar c with
  |some (.b t)=>match ar (cond t a b) with|some v=>some (.val v J)|none=>none
  |_=>none
 | .alloc v=>some (.val (jN J.next 0) (J.push (.cells v.cells)))
 | .box x=>match ar x with|some v=>cond v.val (some (.val (jN J.next 0) (J.push (.cells v.cells)))) none|none=>none
 | .build z aE=>match h4 ar (λoff _=>off) aE z with|some c=>some (.val (.ah c) J)|none=>none
 | .buildSlice aa n z aE=>
  match h4 ar (λi bS=>i*bS) (aE.map λp=>(p.1,shN aa,p.2)) (g2 n z) with
  |some c=>some (.val (.ao J.next 0 n aa (some n)) (J.push (.cells c)))
  |none=>none
 | .load aa a=>match ar a with
  |some p=>match rp J aa p with|some v=>some (.val v J)|none=>none
  |none=>none
 | .store aa a x=>match ar a,ar x with
  |some (.p (some (id,off))),some v=>
   if Nat.blt id floor then none else
   if conf aa v then
    match J.get id with
    |some (.cells c)=>match storeCells c off v.cells with
     |some c=>some (.val ea (J.set id (.cells c)))
     |none=>none
    |_=>none
   else none
  |_,_=>none
 | .nilCheck x=>match ar x with
  |some v=>cond (nilOk v) (some (.val v J)) none
  |none=>none
 | .bin op x y=>match ar x,ar y with
  |some a,some b=>match binop op a b with|some v=>some (.val v J)|none=>none
  |_,_=>none
 | .zv neg x y=>match ar x,ar y with
  |some a,some b=>match binopB a b with|some v=>some (.val (.b (cond neg (!v) v)) J)|none=>none
  |_,_=>none
 | .j8 kind neg x y=>match ar x,ar y with
  |some a,some b=>match isNilEq kind a b with|some v=>some (.val (.b (cond neg (!v) v)) J)|none=>none
  |_,_=>none
 | .not x=>match ar x with|some (.b x)=>some (.val (.b !x) J)|_=>none
 | .neg x=>match ar x with|some (.i k n)=>some (.val (.i k (k.wrap (0-n))) J)|_=>none
 | .conv k x=>match ar x with|some (.i _ n)=>some (.val (.i k (wrapN k n)) J)|some (.hc _ d j)=>(match k with| .i64=>some (.val (.hc .i64 d j) J)|_=>none)|_=>none
 | .FY t x=>match ar x with|some v=>some (.val (.it t v) J)|none=>none
 | .fM fn a c=>match mapO ar a,mapO ar c with|some a,some c=>some (.val (.f fn a c) J)|_,_=>none
 | .mkMap=>some (.val (.m (some J.next)) (J.push (.map [] 0)))
 | .m5 kt x c5 hi fG=>match ar x with
  |some x=>match sliceA ar kt x c5 hi fG with|some v=>some (.val v J)|none=>none
  |none=>none
 | .iN x c5 hi=>match ar x with
  |some (.s s)=>match bndO ar c5 0,bndO ar hi s.length with
   |some l,some h=>if Nat.ble l h&&Nat.ble h s.length then some (.val (.s ((s.drop l).take (h-l))) J) else none
   |_,_=>none
  |_=>none
 | .vH n aa x c5 hi=>match ar x,bndO ar c5 0,bndO ar hi n with
  |some (.p (some (id,off))),some l,some h=>
   if Nat.ble l h&&Nat.ble h n then
    match J.get id with
    |some (.cells c)=>if Nat.ble (off+n*shN aa) c.length then some (.val (.ao id (if n=l then off else off+l*shN aa) (h-l) aa (some (n-l))) J) else none
    |_=>none
   else none
  |_,_,_=>none
 | .fieldAddr off aa x=>match ar x with
  |some x=>match fieldAddrA off aa x with|some v=>some (.val v J)|none=>none
  |none=>none
 | .field off aa x=>match ar x with
  |some (.ah cs)=>match dU aa (cs.drop off) with|some v=>some (.val v J)|none=>none
  |_=>none
 | .rl n aa x i=>match ar x,ar i with
  |some x,some j=>match natOf j with
   |some j=>if Nat.blt j n then match fieldAddrA (j*shN aa) aa x with|some v=>some (.val v J)|none=>none else none
   |none=>none
  |_,_=>none
 | .bj kt x i=>match ar x,ar i with
  |some x,some j=>match natOf j with
   |some j=>match idxSlA kt x j with|some v=>some (.val v J)|none=>none
   |none=>none
  |_,_=>none
 | .k1 x i=>match ar x,ar i with
  |some (.s l),some j=>match natOf j with
   |some j=>match nth l j with|some c=>some (.val (.i .u8 (Int.ofNat c)) J)|none=>none
   |none=>none
  |_,_=>none
 | .zw n aa x i=>match ar x,ar i with
  |some (.ah cs),some j=>match natOf j with
   |some j=>if Nat.blt j n then match dU aa (cs.drop (j*shN aa)) with|some v=>some (.val v J)|none=>none else none
   |none=>none
  |_,_=>none
 | .lookup aa x k z two=>match ar x,ar k with
  |some x,some k=>match lookupA J aa x k z two with|some v=>some (.val v J)|none=>none
  |_,_=>none
 | .j9 aa x k v=>match ar x,ar k,ar v with
  |some (.m (some id)),some k,some v=>
   if Nat.blt id floor then none else
   match J.get id with
   |some (.map es aq)=>match keyEq aa k k with
    |none=>none
    |some _=>match qf aa k v es with
    |some (some es)=>some (.val ea (J.set id (.map es aq)))
    |some none=>some (.val ea (J.set id (.map (es++[(k,v,aq)]) (aq+1))))
    |none=>none
   |_=>none
  |_,_,_=>none
 | .FZ x t z two=>match ar x with
  |some x=>match assertA x t z two with|some v=>some (.val v J)|none=>none
  |none=>none
 | .extract x i=>match ar x with
  |some (.a9 l)=>match nth l i with|some v=>some (.val v J)|none=>none
  |_=>none
 | .call c args=>match calleeV ar c,mapO ar args with
  |some cr,some args=>some (.call cr args)
  |_,_=>none
 | .k2 c args=>match calleeV ar c,mapO ar args with
  |some cr,some args=>some (.k2 cr args)
  |_,_=>none
 | .panic x=>match ar x with|some (.it t v)=>some (.panic (.it t v))|_=>none
 | .len k x=>match ar x with
  |some x=>match lenA J k x with|some n=>some (.val (.i .i64 (Int.ofNat n)) J)|none=>lenU J k x
  |none=>none
 | .F0 n=>some (.val (.i .i64 (Int.ofNat n)) J)
 | .cap x=>match ar x with
  |some x=>match capA x with|some n=>some (.val (.i .i64 (Int.ofNat n)) J)|none=>none
  |none=>none
 | .append aa bytes s x=>match ar s,ar x with
  |some s,some x=>match appendO floor J aa bytes s x with|some (v,J)=>some (.val v J)|none=>none
  |_,_=>none
 | .Cj x=>match ar x with
  |some (.s l)=>some (.val (.ao J.next 0 l.length none none) (J.push (.cells (l.map λc=>AV.i .u8 (Int.ofNat c)))))
  |_=>none
 | .FX x=>match ar x with
  |some x=>match readList J x with
   |some l=>match mapO byteOf l with
    |some l=>some (.val (.s l) J)
    |none=>none
   |none=>none
  |none=>none
 | .mkSlice aa bytes z l c=>match ar l,ar c with
  |some (.i _ (.ofNat n)),some (.i _ (.ofNat m))=>
   cond (Nat.beq z.length (shN aa)&&(Nat.ble n m&&(Nat.ble (bytes*m) 281474976710656&&Nat.ble m 281474976710656)))
    (some (.val (.ao J.next 0 n aa (some m)) (J.push (.cells (g2 m z))))) none
  |some .af,some (.i _ (.ofNat m))=>
   cond (Nat.beq z.length (Nat.succ (shN aa))&&(Nat.blt 0 m&&Nat.ble ((3*m+2000)*bytes) 281474976710656))
    (some (.val (.ao J.next 0 m aa none) (J.push (.cells (g2 m z.tail))))) none
  |_,_=>none
 | .rangeMap x=>match ar x with
  |some (.m none)=>some (.val (jN J.next 0) (J.push (.mapIter none 0 [] 0)))
  |some (.m (some id))=>match J.get id with
   |some (.map _ aq)=>some (.val (jN J.next 0) (J.push (.mapIter (some id) aq [] aq)))
   |_=>none
  |_=>none
 | .sN x=>match ar x with
  |some (.p (some (it,0)))=>if Nat.blt it floor then none else
   match J.get it with
   |some (.mapIter none _ _ _)=>some (.val (.a9 [.b false]) J)
   |some (.mapIter (some id) since seen g1)=>match J.get id with
    |some (.map es aq)=>
     cond (Nat.beq aq since&&Nat.beq g1 since&&cP (λ(e:AV×AV×Nat)=>Nat.blt e.2.2 since) es)
      (match mu seen es with
       |[]=>some (.val (.a9 [.b false]) J)
       |l=>some (.jM (l.map λe=>(.a9 [.b true,e.1,e.2.1],J.set it (.mapIter (some id) since (seen++[e.2.2]) aq))))) none
    |_=>none
   |_=>none
  |_=>none
 | .entry x=>match ar x with
  |some (.p (some (it,0)))=>match J.get it with
   |some (.mapIter (some id) since seen g1)=>match J.get id with
    |some (.map es aq)=>cond (Nat.beq aq g1) (match qg seen with
     |some b=>match pc b es with
      |some e=>some (.val (.a9 [e.1,e.2.1]) J)
      |none=>none
     |none=>none) none
    |_=>none
   |_=>none
  |_=>none
 | .copy _ d x=>match ar d,ar x with
  |some (.ao _ _ 0 _ _),some (.ah _)=>some (.val ea J)
  |some (.ao id off (len+1) _ _),some (.ah z)=>match Nat.blt id floor,J.get id with
   |false,some (.cells c)=>match storeCells c off (g2 (len+1) z) with
    |some c=>some (.val ea (J.set id (.cells c)))
    |none=>none
   |_,_=>none
  |some .af,some (.ah _)=>some (.val ea J)
  |some (.a_ _ _ []),some (.ah _)=>some (.val ea J)
  |_,_=>none
 | .rm fG x y=>match ar x,ar y with
  |some (.i k a),some (.i l b)=>if k=l then some (.val (.i k (if fG then(if b > a then b else a) else(if b<a then b else a))) J) else none
  |_,_=>none
 |_=>none
abbrev Lc:=Nat->(aI->Option AV)->ae->Option bV
def a6m(x:aI)(floor:Nat)(ar:aI->Option AV)(J:ae):Option bV:=
  match ar x with|some v=>some (.val v J)|none=>none
def a6n(c:aI)(a:aI)(b:aI)(floor:Nat)(ar:aI->Option AV)(J:ae):Option bV:=
  match ar c with
  |some (.b t)=>match ar (cond t a b) with|some v=>some (.val v J)|none=>none
  |_=>none
def a6o(v:AV)(floor:Nat)(ar:aI->Option AV)(J:ae):Option bV:=
  some (.val (jN J.next 0) (J.push (.cells v.cells)))
def a6p(x:aI)(floor:Nat)(ar:aI->Option AV)(J:ae):Option bV:=
  match ar x with|some v=>cond v.val (some (.val (jN J.next 0) (J.push (.cells v.cells)))) none|none=>none
def a6q(z:List AV)(aE:List (Nat×Nat×aI))(floor:Nat)(ar:aI->Option AV)(J:ae):Option bV:=
  match h4 ar (λoff _=>off) aE z with|some c=>some (.val (.ah c) J)|none=>none
def a6r(aa:Option Nat)(n:Nat)(z:List AV)(aE:List (Nat×aI))(floor:Nat)(ar:aI->Option AV)(J:ae):Option bV:=
  match h4 ar (λi bS=>i*bS) (aE.map λp=>(p.1,shN aa,p.2)) (g2 n z) with
  |some c=>some (.val (.ao J.next 0 n aa (some n)) (J.push (.cells c)))
  |none=>none
def a6s(aa:Option Nat)(a:aI)(floor:Nat)(ar:aI->Option AV)(J:ae):Option bV:=
  match ar a with
  |some p=>match rp J aa p with|some v=>some (.val v J)|none=>none
  |none=>none
def a6t(aa:Option Nat)(a:aI)(x:aI)(floor:Nat)(ar:aI->Option AV)(J:ae):Option bV:=
  match ar a,ar x with
  |some (.p (some (id,off))),some v=>
   if Nat.blt id floor then none else
   if conf aa v then
    match J.get id with
    |some (.cells c)=>match storeCells c off v.cells with
     |some c=>some (.val ea (J.set id (.cells c)))
     |none=>none
    |_=>none
   else none
  |_,_=>none
def a6u(x:aI)(floor:Nat)(ar:aI->Option AV)(J:ae):Option bV:=
  match ar x with
  |some v=>cond (nilOk v) (some (.val v J)) none
  |none=>none
def a6v(op:BinOp)(x:aI)(y:aI)(floor:Nat)(ar:aI->Option AV)(J:ae):Option bV:=
  match ar x,ar y with
  |some a,some b=>match binop op a b with|some v=>some (.val v J)|none=>none
  |_,_=>none
def a6w(neg:Bool)(x:aI)(y:aI)(floor:Nat)(ar:aI->Option AV)(J:ae):Option bV:=
  match ar x,ar y with
  |some a,some b=>match binopB a b with|some v=>some (.val (.b (cond neg (!v) v)) J)|none=>none
  |_,_=>none
def a6x(kind:Nat)(neg:Bool)(x:aI)(y:aI)(floor:Nat)(ar:aI->Option AV)(J:ae):Option bV:=
  match ar x,ar y with
  |some a,some b=>match isNilEq kind a b with|some v=>some (.val (.b (cond neg (!v) v)) J)|none=>none
  |_,_=>none
def a6y(x:aI)(floor:Nat)(ar:aI->Option AV)(J:ae):Option bV:=
  match ar x with|some (.b x)=>some (.val (.b !x) J)|_=>none
def a6z(x:aI)(floor:Nat)(ar:aI->Option AV)(J:ae):Option bV:=
  match ar x with|some (.i k n)=>some (.val (.i k (k.wrap (0-n))) J)|_=>none
def a6A(k:IntKind)(x:aI)(floor:Nat)(ar:aI->Option AV)(J:ae):Option bV:=
  match ar x with|some (.i _ n)=>some (.val (.i k (wrapN k n)) J)|some (.hc _ d j)=>(match k with| .i64=>some (.val (.hc .i64 d j) J)|_=>none)|_=>none
def a6B(t:TypeId)(x:aI)(floor:Nat)(ar:aI->Option AV)(J:ae):Option bV:=
  match ar x with|some v=>some (.val (.it t v) J)|none=>none
def a6C(fn:Fn)(a:List aI)(c:List aI)(floor:Nat)(ar:aI->Option AV)(J:ae):Option bV:=
  match mapO ar a,mapO ar c with|some a,some c=>some (.val (.f fn a c) J)|_,_=>none
def a6D(floor:Nat)(ar:aI->Option AV)(J:ae):Option bV:=
  some (.val (.m (some J.next)) (J.push (.map [] 0)))
def a6E(kt:Option Nat)(x:aI)(c5:Option aI)(hi:Option aI)(fG:Option aI)(floor:Nat)(ar:aI->Option AV)(J:ae):Option bV:=
  match ar x with
  |some x=>match sliceA ar kt x c5 hi fG with|some v=>some (.val v J)|none=>none
  |none=>none
def a6F(x:aI)(c5:Option aI)(hi:Option aI)(floor:Nat)(ar:aI->Option AV)(J:ae):Option bV:=
  match ar x with
  |some (.s s)=>match bndO ar c5 0,bndO ar hi s.length with
   |some l,some h=>if Nat.ble l h&&Nat.ble h s.length then some (.val (.s ((s.drop l).take (h-l))) J) else none
   |_,_=>none
  |_=>none
def a6G(n:Nat)(aa:Option Nat)(x:aI)(c5:Option aI)(hi:Option aI)(floor:Nat)(ar:aI->Option AV)(J:ae):Option bV:=
  match ar x,bndO ar c5 0,bndO ar hi n with
  |some (.p (some (id,off))),some l,some h=>
   if Nat.ble l h&&Nat.ble h n then
    match J.get id with
    |some (.cells c)=>if Nat.ble (off+n*shN aa) c.length then some (.val (.ao id (if n=l then off else off+l*shN aa) (h-l) aa (some (n-l))) J) else none
    |_=>none
   else none
  |_,_,_=>none
def a6H(off:Nat)(aa:Option Nat)(x:aI)(floor:Nat)(ar:aI->Option AV)(J:ae):Option bV:=
  match ar x with
  |some x=>match fieldAddrA off aa x with|some v=>some (.val v J)|none=>none
  |none=>none
def a6I(off:Nat)(aa:Option Nat)(x:aI)(floor:Nat)(ar:aI->Option AV)(J:ae):Option bV:=
  match ar x with
  |some (.ah cs)=>match dU aa (cs.drop off) with|some v=>some (.val v J)|none=>none
  |_=>none
def a6J(n:Nat)(aa:Option Nat)(x:aI)(i:aI)(floor:Nat)(ar:aI->Option AV)(J:ae):Option bV:=
  match ar x,ar i with
  |some x,some j=>match natOf j with
   |some j=>if Nat.blt j n then match fieldAddrA (j*shN aa) aa x with|some v=>some (.val v J)|none=>none else none
   |none=>none
  |_,_=>none
def a6K(kt:Option Nat)(x:aI)(i:aI)(floor:Nat)(ar:aI->Option AV)(J:ae):Option bV:=
  match ar x,ar i with
  |some x,some j=>match natOf j with
   |some j=>match idxSlA kt x j with|some v=>some (.val v J)|none=>none
   |none=>none
  |_,_=>none
def a6L(x:aI)(i:aI)(floor:Nat)(ar:aI->Option AV)(J:ae):Option bV:=
  match ar x,ar i with
  |some (.s l),some j=>match natOf j with
   |some j=>match nth l j with|some c=>some (.val (.i .u8 (Int.ofNat c)) J)|none=>none
   |none=>none
  |_,_=>none
def a6M(n:Nat)(aa:Option Nat)(x:aI)(i:aI)(floor:Nat)(ar:aI->Option AV)(J:ae):Option bV:=
  match ar x,ar i with
  |some (.ah cs),some j=>match natOf j with
   |some j=>if Nat.blt j n then match dU aa (cs.drop (j*shN aa)) with|some v=>some (.val v J)|none=>none else none
   |none=>none
  |_,_=>none
def a6N(aa:Nat ⊕ List Nat)(x:aI)(k:aI)(z:AV)(two:Bool)(floor:Nat)(ar:aI->Option AV)(J:ae):Option bV:=
  match ar x,ar k with
  |some x,some k=>match lookupA J aa x k z two with|some v=>some (.val v J)|none=>none
  |_,_=>none
def a6O(aa:Nat ⊕ List Nat)(x:aI)(k:aI)(v:aI)(floor:Nat)(ar:aI->Option AV)(J:ae):Option bV:=
  match ar x,ar k,ar v with
  |some (.m (some id)),some k,some v=>
   if Nat.blt id floor then none else
   match J.get id with
   |some (.map es aq)=>match keyEq aa k k with
    |none=>none
    |some _=>match qf aa k v es with
    |some (some es)=>some (.val ea (J.set id (.map es aq)))
    |some none=>some (.val ea (J.set id (.map (es++[(k,v,aq)]) (aq+1))))
    |none=>none
   |_=>none
  |_,_,_=>none
def a6P(x:aI)(t:TypeId)(z:AV)(two:Bool)(floor:Nat)(ar:aI->Option AV)(J:ae):Option bV:=
  match ar x with
  |some x=>match assertA x t z two with|some v=>some (.val v J)|none=>none
  |none=>none
def a6Q(x:aI)(i:Nat)(floor:Nat)(ar:aI->Option AV)(J:ae):Option bV:=
  match ar x with
  |some (.a9 l)=>match nth l i with|some v=>some (.val v J)|none=>none
  |_=>none
def a6R(c:sM)(args:List aI)(floor:Nat)(ar:aI->Option AV)(J:ae):Option bV:=
  match calleeV ar c,mapO ar args with
  |some cr,some args=>some (.call cr args)
  |_,_=>none
def a6S(c:sM)(args:List aI)(floor:Nat)(ar:aI->Option AV)(J:ae):Option bV:=
  match calleeV ar c,mapO ar args with
  |some cr,some args=>some (.k2 cr args)
  |_,_=>none
def a6T(x:aI)(floor:Nat)(ar:aI->Option AV)(J:ae):Option bV:=
  match ar x with|some (.it t v)=>some (.panic (.it t v))|_=>none
def a6U(k:Nat)(x:aI)(floor:Nat)(ar:aI->Option AV)(J:ae):Option bV:=
  match ar x with
  |some x=>match lenA J k x with|some n=>some (.val (.i .i64 (Int.ofNat n)) J)|none=>lenU J k x
  |none=>none
def a6V(n:Nat)(floor:Nat)(ar:aI->Option AV)(J:ae):Option bV:=
  some (.val (.i .i64 (Int.ofNat n)) J)
def a6W(x:aI)(floor:Nat)(ar:aI->Option AV)(J:ae):Option bV:=
  match ar x with
  |some x=>match capA x with|some n=>some (.val (.i .i64 (Int.ofNat n)) J)|none=>none
  |none=>none
def a6X(aa:Option Nat)(bytes:Nat)(s:aI)(x:aI)(floor:Nat)(ar:aI->Option AV)(J:ae):Option bV:=
  match ar s,ar x with
  |some s,some x=>match appendO floor J aa bytes s x with|some (v,J)=>some (.val v J)|none=>none
  |_,_=>none
def a6Y(x:aI)(floor:Nat)(ar:aI->Option AV)(J:ae):Option bV:=
  match ar x with
  |some (.s l)=>some (.val (.ao J.next 0 l.length none none) (J.push (.cells (l.map λc=>AV.i .u8 (Int.ofNat c)))))
  |_=>none
def a6Z(x:aI)(floor:Nat)(ar:aI->Option AV)(J:ae):Option bV:=
  match ar x with
  |some x=>match readList J x with
   |some l=>match mapO byteOf l with
    |some l=>some (.val (.s l) J)
    |none=>none
   |none=>none
  |none=>none
def a7a(aa:Option Nat)(bytes:Nat)(z:List AV)(l:aI)(c:aI)(floor:Nat)(ar:aI->Option AV)(J:ae):Option bV:=
  match ar l,ar c with
  |some (.i _ (.ofNat n)),some (.i _ (.ofNat m))=>
   cond (Nat.beq z.length (shN aa)&&(Nat.ble n m&&(Nat.ble (bytes*m) 281474976710656&&Nat.ble m 281474976710656)))
    (some (.val (.ao J.next 0 n aa (some m)) (J.push (.cells (g2 m z))))) none
  |some .af,some (.i _ (.ofNat m))=>
   cond (Nat.beq z.length (Nat.succ (shN aa))&&(Nat.blt 0 m&&Nat.ble ((3*m+2000)*bytes) 281474976710656))
    (some (.val (.ao J.next 0 m aa none) (J.push (.cells (g2 m z.tail))))) none
  |_,_=>none
def a7b(x:aI)(floor:Nat)(ar:aI->Option AV)(J:ae):Option bV:=
  match ar x with
  |some (.m none)=>some (.val (jN J.next 0) (J.push (.mapIter none 0 [] 0)))
  |some (.m (some id))=>match J.get id with
   |some (.map _ aq)=>some (.val (jN J.next 0) (J.push (.mapIter (some id) aq [] aq)))
   |_=>none
  |_=>none
def a7c(x:aI)(floor:Nat)(ar:aI->Option AV)(J:ae):Option bV:=
  match ar x with
  |some (.p (some (it,0)))=>if Nat.blt it floor then none else
   match J.get it with
   |some (.mapIter none _ _ _)=>some (.val (.a9 [.b false]) J)
   |some (.mapIter (some id) since seen g1)=>match J.get id with
    |some (.map es aq)=>
     cond (Nat.beq aq since&&Nat.beq g1 since&&cP (λ(e:AV×AV×Nat)=>Nat.blt e.2.2 since) es)
      (match mu seen es with
       |[]=>some (.val (.a9 [.b false]) J)
       |l=>some (.jM (l.map λe=>(.a9 [.b true,e.1,e.2.1],J.set it (.mapIter (some id) since (seen++[e.2.2]) aq))))) none
    |_=>none
   |_=>none
  |_=>none
def a7d(x:aI)(floor:Nat)(ar:aI->Option AV)(J:ae):Option bV:=
  match ar x with
  |some (.p (some (it,0)))=>match J.get it with
   |some (.mapIter (some id) since seen g1)=>match J.get id with
    |some (.map es aq)=>cond (Nat.beq aq g1) (match qg seen with
     |some b=>match pc b es with
      |some e=>some (.val (.a9 [e.1,e.2.1]) J)
      |none=>none
     |none=>none) none
    |_=>none
   |_=>none
  |_=>none
def a7e(_sh:Option Nat)(d:aI)(x:aI)(floor:Nat)(ar:aI->Option AV)(J:ae):Option bV:=
  match ar d,ar x with
  |some (.ao _ _ 0 _ _),some (.ah _)=>some (.val ea J)
  |some (.ao id off (len+1) _ _),some (.ah z)=>match Nat.blt id floor,J.get id with
   |false,some (.cells c)=>match storeCells c off (g2 (len+1) z) with
    |some c=>some (.val ea (J.set id (.cells c)))
    |none=>none
   |_,_=>none
  |some .af,some (.ah _)=>some (.val ea J)
  |some (.a_ _ _ []),some (.ah _)=>some (.val ea J)
  |_,_=>none
def a7f(fG:Bool)(x:aI)(y:aI)(floor:Nat)(ar:aI->Option AV)(J:ae):Option bV:=
  match ar x,ar y with
  |some (.i k a),some (.i l b)=>if k=l then some (.val (.i k (if fG then(if b > a then b else a) else(if b<a then b else a))) J) else none
  |_,_=>none
def SX:Lc:=λ_ _ _=>none
def sQ(op:AOp):Lc:=
 AOp.rec (motive:=λ_=>Lc) a6m a6n a6o a6p a6q a6r a6s a6t a6u a6v a6w a6x a6y a6z a6A a6Y a6Z a6B a6C a6D a7a a6G a6E a6F a6H a6I a6J a6K a6L a6M a6N a6O a7b a7c a7d a6P a6Q a6R a6S a6T a6X a6U a6V a6W a7e a7f SX SX op
def AOp.isRec(op:AOp):Bool:=
 AOp.rec (motive:=λ_=>Bool) (λ_=>false) (λ_ _ _=>false) (λ_=>false) (λ_=>false) (λ_ _=>false) (λ_ _ _ _=>false) (λ_ _=>false) (λ_ _ _=>false) (λ_=>false) (λ_ _ _=>false) (λ_ _ _=>false) (λ_ _ _ _=>false) (λ_=>false) (λ_=>false) (λ_ _=>false) (λ_=>false) (λ_=>false) (λ_ _=>false) (λ_ _ _=>false) false (λ_ _ _ _ _=>false) (λ_ _ _ _ _=>false) (λ_ _ _ _ _=>false) (λ_ _ _=>false) (λ_ _ _=>false) (λ_ _ _=>false) (λ_ _ _ _=>false) (λ_ _ _=>false) (λ_ _=>false) (λ_ _ _ _=>false) (λ_ _ _ _ _=>false) (λ_ _ _ _=>false) (λ_=>false) (λ_=>false) (λ_=>false) (λ_ _ _ _=>false) (λ_ _=>false) (λ_ _=>false) (λ_ _=>false) (λ_=>false) (λ_ _ _ _=>false) (λ_ _=>false) (λ_=>false) (λ_=>false) (λ_ _ _=>false) (λ_ _ _=>false) true false op
def wantedA(g:Option (Nat×Bool))(ao:a1 AV):Bool:=
 match g with
 |none=>true
 |some (d,w)=>match ao.get d with
  |some (.b x)=>x==w
  |_=>false
def F3(g:Option (Nat×Bool))(ao:a1 AV):Bool:=
 Option.rec (motive:=λ_=>Bool) true (λp=>match a1.F1 (La p.1) ao with
  |some (.b x)=>x==p.2
  |_=>false) g
abbrev jf:=Nat->Option Nat->bO->Fr->ae->Option (List (fN×Fr×ae))
def resultOf(J:ae)(ao:a1 AV)(r:Nat×Option (Option Nat)):Option AV:=
 match ao.get r.1,r.2 with
 |some v,none=>some v
 |some (.p (some (id,off))),some aa=>match J.get id with
  |some (.cells c)=>dU aa (c.drop off)
  |_=>none
 |_,_=>none
def resultsOf(J:ae)(ao:a1 AV)(rs:List (Nat×Option (Option Nat))):Option AV:=
 match mapO (resultOf J ao) rs with
 |some [v]=>some v
 |some bo=>some (.a9 bo)
 |none=>none
def uo(fn:aP)(args:List AV):Fr:=⟨a1.lay args 0 (a1.full fn.ntmps ea fn.ntmps),[],false⟩
def isFn:AV->Bool
 | .f (.func _) _ _=>true
 |_=>false
def rq(env:Env)(floor:Nat)(call:AV->List AV->ae->Option (et×ae))(rc:Option AV)(dQ:Bool)(ops:List a3):Fr->ae->Option (fN×Fr×ae):=
 List.rec (λad J=>some (.normal,ad,J)) (λo _ aH ad J=>
  cond (wantedA o.guard ad.bf)
   (cond o.op.isRec
    (match rc with
     |some v=>aH (Fr.put ⟨ad.bf,ad.defers,true⟩ o.dst (cond ad.fS .fJ v)) J
     |none=>none)
    (match sQ o.op floor (evalA env ad.bf) J with
     |some (.val v J)=>aH (ad.put o.dst v) J
     |some (.call cr args)=>match call cr args J with
      |some (.ok v,J)=>aH (ad.put o.dst v) J
      |some (.err v,J)=>some (.panic v,ad,J)
      |none=>none
     |some (.k2 cr args)=>cond (dQ&&isFn cr) (aH (Fr.put ⟨ad.bf,.inr (cr,args)::ad.defers,ad.fS⟩ o.dst ea) J) none
     |some (.panic v)=>some (.panic v,ad,J)
     |some (.jM _)=>none
     |none=>none))
   (aH (ad.put o.dst ea) J)) ops
abbrev m6:=List (fN×Fr×ae)
abbrev mv:=AV->List AV->ae->Option (List (et×ae))
def runOps(env:Env)(floor:Nat)(call:mv)(dQ:Bool)(ops:List a3):Fr->ae->Option m6:=
 List.rec (motive:=λ_=>Fr->ae->Option m6) (λad J=>some [(.normal,ad,J)]) (λo _ aH ad J=>
  Bool.rec (motive:=λ_=>Option m6) (aH (ad.om o.dst ea) J)
   (Option.rec (motive:=λ_=>Option m6) none (λr=>bV.rec (motive:=λ_=>Option m6)
    (λv J=>aH (ad.om o.dst v) J)
    (λcr args=>hB (call cr args J) (λr=>match r with
     |(.ok v,J)=>aH (ad.om o.dst v) J
     |(.err v,J)=>some [(.panic v,ad,J)]))
    (λcr args=>cond (dQ&&isFn cr) (aH (Fr.om ⟨ad.bf,.inr (cr,args)::ad.defers,ad.fS⟩ o.dst ea) J) none)
    (λv=>some [(.panic v,ad,J)])
    (λl=>oo (λp=>aH (ad.om o.dst p.1) p.2) l) r)
    (sQ o.op floor (zy env ad.bf) J))
   (F3 o.guard ad.bf)) ops
def AOp.fT:AOp->Bool
 | .store _ _ _| .j9 _ _ _ _| .call _ _| .append _ _ _ _| .copy _ _ _| .mkSlice _ _ _ _ _| .Cj _| .rangeMap _| .sN _| .k2 _ _| .panic _| .recover=>true
 |_=>false
def AOp.k3:AOp->Bool
 | .alloc _| .box _| .buildSlice _ _ _ _| .mkMap=>true
 |_=>false
def AOp.looks:AOp->Bool
 | .load _ _| .lookup _ _ _ _ _| .len _ _| .entry _| .FX _| .vH _ _ _ _ _=>true
 |_=>false
def qh{α:Type}:Option α->List α
 |none=>[]
 |some x=>[x]
def AOp.opnds:AOp->List aI
 | .bh x=>[x]| .pick c a b=>[c,a,b]| .alloc _=>[]| .box x=>[x]| .build _ aE=>aE.map (·.2.2)| .buildSlice _ _ _ aE=>aE.map (·.2)
 | .load _ a=>[a]| .store _ a x=>[a,x]| .nilCheck x=>[x]| .bin _ x y=>[x,y]| .zv _ x y=>[x,y]| .j8 _ _ x y=>[x,y]| .not x=>[x]| .neg x=>[x]| .conv _ x=>[x]
 | .Cj x=>[x]| .FX x=>[x]| .FY _ x=>[x]| .fM _ a c=>a++c| .mkMap=>[]| .mkSlice _ _ _ l c=>[l,c]
 | .vH _ _ x l h=>x::(qh l++qh h)| .m5 _ x l h m=>x::(qh l++(qh h++qh m))| .iN x l h=>x::(qh l++qh h)
 | .fieldAddr _ _ x=>[x]| .field _ _ x=>[x]| .rl _ _ x i=>[x,i]| .bj _ x i=>[x,i]| .k1 x i=>[x,i]| .zw _ _ x i=>[x,i]
 | .lookup _ x k _ _=>[x,k]| .j9 _ m k v=>[m,k,v]| .rangeMap x=>[x]| .sN x=>[x]| .entry x=>[x]| .FZ x _ _ _=>[x]| .extract x _=>[x]
 | .call c as=>(match c with| .fn _=>[]| .val o=>[o])++as| .k2 c as=>(match c with| .fn _=>[]| .val o=>[o])++as
 | .panic x=>[x]| .append _ _ s x=>[s,x]| .len _ x=>[x]| .F0 _=>[]| .cap x=>[x]| .copy _ d s=>[d,s]| .rm _ x y=>[x,y]| .recover=>[]| .bad=>[]
def aI.tmp:aI->Option Nat
 | .t i=>some i
 |_=>none
def a3.reads(o:a3):List Nat:=(match o.guard with|some (d,_)=>[d]|none=>[])++o.op.opnds.filterMap aI.tmp
abbrev sR:=a3×a1 AV×AV
def jg(env:Env)(floor:Nat)(call:mv)(ops:List a3):Fr->List ae->List sR->ae->Option (Fr×List ae×List sR×ae):=
 List.rec (λad cO ws J=>some (ad,cO,ws,J)) (λo _ aH ad cO ws J=>
  cond (F3 o.guard ad.bf)
   (match sQ o.op floor (zy env ad.bf) J with
    |some (.val v ag)=>aH (ad.om o.dst v) (J::cO) (match o.j_ with|[]=>ws|_::_=>(o,ad.bf,v)::ws) ag
    |some (.call cr args)=>match call cr args J with
     |some [(.ok v,ag)]=>aH (ad.om o.dst v) (J::cO) ws ag
     |_=>none
    |_=>none)
   (aH (ad.om o.dst ea) (J::cO) ws J)) ops
def steady(env:Env)(floor:Nat)(cO:List ae)(w:sR):Bool:=
 cP (λq=>match nth cO q with
  |some J=>match sQ w.1.op floor (evalA env w.2.1) J with
   |some (.val v _)=>AV.eqb env.bt v w.2.2
   |_=>false
  |none=>false) w.1.j_
def swapOk(env:Env)(ao:a1 AV)(ops:List a3):Bool:=
 match ops.reverse with
 |y::x::_=>match y.j_ with
  |[]=>true
  |_::_=>match y.op with
   | .store _ b _=>match x.op with
    | .store _ a _=>match evalA env ao a,evalA env ao b with
     |some (.p (some (i,_))),some (.p (some (j,_)))=>!Nat.beq i j
     |_,_=>false
    |_=>false
   |_=>true
 |_=>true
def leave(floor:Nat)(call:AV->List AV->AV->ae->Option (Bool×ae))(ds:List (Nat ⊕ (AV×List AV))):Option AV->ae->Option (Option AV×ae):=
 List.rec (λp J=>some (p,J)) (λd _ aH p J=>
  match d with
  | .inl b=>if Nat.blt b floor then none else match J.get b with
   |some .eo=>aH p (J.set b .dead)
   |_=>none
  | .inr (cr,args)=>match call cr args (p.getD .fJ) J with
   |some (r,J)=>aH (cond r none p) J
   |none=>none) ds
def vI(env:Env)(floor:Nat)(rc:AV)(c:bO):Fr->ae->Option (fN×Fr×ae):=
 bO.rec (motive:=λ_=>Fr->ae->Option (fN×Fr×ae))
  (λad J=>some (.normal,ad,J))
  (λops ad J=>rq env floor (λ_ _ _=>none) (some rc) false ops ad J)
  (λ_ _ _=>none)
  (λ_ _ Ld Le ad J=>match Ld ad J with
   |some (.normal,ad,J)=>Le ad J
   |r=>r)
  (λc _ _ Ld Le ad J=>match evalA env ad.bf c with
   |some (.b t)=>cond t (Ld ad J) (Le ad J)
   |_=>none)
  (λ_ _ _ _ _=>none) (λ_ _ _ _=>none) (λ_ _ _ _=>none) (λ_ _ _ _ _ _ _ _=>none) (λ_ _ _=>none)
  (λad J=>some (.ret,ad,J)) (λ_ _=>none) c
def callD(env:Env)(floor:Nat)(cr:AV)(args:List AV)(p:AV)(J:ae):Option (Bool×ae):=
 match cr with
 | .f (.func g) first cap=>match env.funcs g with
  |some fn=>match fn.body with
   |some body=>cond (Nat.beq (first++args++cap).length fn.kr&&Nat.ble (first++args++cap).length fn.ntmps)
    (match vI env floor p body (uo fn (first++args++cap)) J with
     |some (.normal,ad,J)=>(match ad.defers,resultsOf J ad.bf fn.results with|[],some _=>some (ad.fS,J)|_,_=>none)
     |some (.ret,ad,J)=>(match ad.defers,resultsOf J ad.bf fn.results with|[],some _=>some (ad.fS,J)|_,_=>none)
     |_=>none) none
   |none=>none
  |none=>none
 |_=>none
def F4(e:fN):Option AV:=match e with| .panic v=>some v|_=>none
def endF(env:Env)(floor:Nat)(fn:aP)(r:fN×Fr×ae):Option (List (et×ae)):=
 match r with
 |(.exit _,_,_)=>none
 |(e,ad,J)=>
  match leave floor (callD env floor) ad.defers (F4 e) J with
  |none=>none
  |some (some v,J)=>some [(.err v,J)]
  |some (none,J)=>match resultsOf J ad.bf fn.results with
   |some v=>some [(.ok v,J)]
   |none=>none
def runF(env:Env)(aH:jf)(floor g:Nat)(args:List AV)(J:ae):Option (List (et×ae)):=
 match env.funcs g with
 |none=>none
 |some fn=>match fn.body with
  |none=>none
  |some body=>
   cond (Nat.beq args.length fn.kr&&Nat.ble args.length fn.ntmps)
    (hB (aH floor none body (uo fn args) J) (endF env floor fn))
    none
def zz(c:Nat)(l:List Nat):Nat->Int:=List.rec (motive:=λ_=>Nat->Int) (λ_=>-1) (λx _ aH k=>cond (Nat.beq x c) (Int.ofNat k) (aH (k+1))) l
def a7g(c:Nat)(l:List Nat):Nat:=List.rec 0 (λx _ aH=>cond (Nat.beq x c) (Nat.succ aH) aH) l
def extRow(n:Nat)(args:List AV):Option AV:=
 match n,args with
 |1,[.s l,.i .u8 (.ofNat c)]=>cond (Nat.blt c 256) (some (.i .i64 (zz c l 0))) none
 |2,[.s a,.s b]=>some (.i .i64 (cond (hZ a b) (-1) (cond (eqL a b) 0 1)))
 |3,[.s l,.i .u8 (.ofNat c)]=>cond (Nat.blt c 256) (some (.i .i64 (Int.ofNat (a7g c l)))) none
 |_,_=>none
def xy(n base:Nat)(v1:AV)(y:et×ae):Bool:=
 match y with
 |(.ok w,J)=>(match freeze J base n w with|some bW=>AV.eqb n bW v1|none=>false)
 |(.err _,_)=>false
def joinF(n base:Nat)(l:List (et×ae)):Option AV:=
 match l with
 |[]=>none
 |x::t=>match x with
  |(.err _,_)=>none
  |(.ok v,J)=>match freeze J base n v with
   |none=>none
   |some v1=>cond (cP (xy n base v1) t) (some v1) none
def callF(env:Env)(aH:jf)(floor g:Nat)(args:List AV)(J:ae):Option (List (et×ae)):=
 match env.ext g with
 |0=>
  cond (env.pure g)
   (match(match mapO (bT J env.bt) args with|some aY=>env.spec g aY|none=>none) with
    |some r=>some [(.ok r,J)]
    |none=>match runF env aH J.next g args J with
     |some l=>match joinF env.bt J.next l with
      |some v=>some [(.ok v,J)]
      |none=>none
     |none=>none)
   (runF env aH floor g args J)
 |k=>match extRow k args with
  |some v=>some [(.ok v,J)]
  |none=>none
def layAll(aE:List Nat):List AV->a1 AV->a1 AV:=
 List.rec (λ_ ao=>ao) (λp _ aH args ao=>match args with|[]=>ao|a::args=>aH args (ao.set p a)) aE
def endRound(J:ae)(l:Nat)(a7h:Option bO):Option (et×ae):=
 match J.get l with
 |some (.loop _ _ ao aE as b d)=>match a7h with
  |none=>some (.ok (.b true),J.set l (.loop .ready none ao aE as b d))
  |some c=>some (.ok (.b false),J.set l (.loop .done (some c) ao aE as b d))
 |_=>none
def roundEnd(l:Nat)(r:fN×Fr×ae):Option (List (et×ae)):=
 match r with
 |(.normal,_,J)=>(endRound J l none).map λx=>[x]
 |(.ret,_,J)=>(endRound J l (some .ret)).map λx=>[x]
 |(.exit id,_,J)=>(endRound J l (some (.exit id))).map λx=>[x]
 |_=>none
def roundMid(aH:jf)(floor l:Nat)(b:bO)(r:fN×Fr×ae):Option (List (et×ae)):=
 match r with
 |(.normal,ad,J)=>match J.get l with
  |some (.loop .ready l1 uq m7 h5 fK je)=>hB (aH floor (some l) b ad (J.set l (.loop .busy l1 uq m7 h5 fK je))) (roundEnd l)
  |_=>none
 |_=>none
def Lf(aH:jf)(floor l:Nat)(args:List AV)(J:ae):Option (List (et×ae)):=
 if Nat.blt l floor then none else
 match J.get l with
 |some (.loop .ready _ ao aE as b _)=>
  cond (Nat.beq aE.length args.length)
   (hB (aH floor (some l) as ⟨layAll aE args ao,[],false⟩ J) (roundMid aH floor l b)) none
 |_=>none
def callV(env:Env)(aH:jf)(floor:Nat)(cr:AV)(args:List AV)(J:ae):Option (List (et×ae)):=
 match cr with
 | .f (.func g) first cap=>callF env aH floor g (first++args++cap) J
 | .f (.yield l) _ _=>Lf aH floor l args J
 |_=>none
def Cm(aN:Option Nat)(ad:Fr)(J:ae):Option (Nat×ae×List (Nat ⊕ (AV×List AV))):=
 match aN with
 |some l=>match J.get l with
  |some (.loop _ _ _ _ _ _ d)=>some (d,J,ad.defers)
  |_=>none
 |none=>some (J.next,J.push .eo,.inl J.next::ad.defers)
def zA(aH:jf)(floor:Nat)(aN:Option Nat)(b:bO)(r:fN×Fr×ae):Option m6:=
 match r with
 |(.normal,ad,J)=>aH floor aN b ad J
 |r=>some [r]
def Lg(id:Nat)(r:fN×Fr×ae):Option m6:=
 match r with
 |(.exit j,ad,J)=>cond (Nat.beq j id) (some [(.normal,ad,J)]) (some [(.exit j,ad,J)])
 |r=>some [r]
def rangeK(aH:jf)(floor:Nat)(aN:Option Nat)(ad:Fr)(ds:List (Nat ⊕ (AV×List AV)))(l:Nat)(r:et×ae):Option m6:=
 match r with
 |(.ok _,hC)=>match hC.get l with
  |some (.loop st l1 uq m7 h5 fK je)=>
   match st with
   | .busy=>none
   |_=>match l1 with
    |none=>some [(.normal,⟨ad.bf,ds,ad.fS⟩,hC.set l (.loop .exhausted l1 uq m7 h5 fK je))]
    |some c=>aH floor aN c ⟨ad.bf,ds,ad.fS⟩ (hC.set l (.loop .exhausted l1 uq m7 h5 fK je))
  |_=>none
 |_=>none
def step(env:Env)(aH:jf):jf:=λfloor aN c ad J=>
 match c with
 | .skip=>some [(.normal,ad,J)]
 | .region ops=>runOps env floor (callV env aH floor) aN.isNone ops ad J
 | .draw ops=>match jg env floor (callV env aH floor) ops ad [] [] J with
  |some (bc,cO,ws,ag)=>
   cond (ws.all (steady env floor (ag::cO).reverse)&&swapOk env bc.bf ops) (some [(.normal,bc,ag)]) none
  |none=>none
 | .seq a b=>hB (aH floor aN a ad J) (zA aH floor aN b)
 | .cond c a b=>match evalA env ad.bf c with
  |some (.b t)=>aH floor aN (cond t a b) ad J
  |_=>none
 | .block id a=>hB (aH floor aN a ad J) (Lg id)
 | .scope a=>aH floor aN a ad J
 | .loop a=>hB (aH floor aN a ad J) (zA aH floor aN (.loop a))
 | .exit id=>some [(.exit id,ad,J)]
 | .ret=>some [(.ret,ad,J)]
 | .rangeFunc f aE as b=>
  if Nat.blt J.next floor then none else
  match evalA env ad.bf f with
  |some (.f (.func g) first cap)=>
   match Cm aN ad J with
   |none=>none
   |some (d,b2,ds)=>
    match env.ext g with
    |0=>hB (callF env aH floor g (first++AV.f (.yield b2.next) [] []::cap) (b2.push (.loop .ready none ad.bf aE as b d))) (rangeK aH floor aN ad ds b2.next)
    |_=>none
  |_=>none
 | .bad=>none
abbrev ot:=Env->jf->Nat->Option Nat->Fr->ae->Option (List (fN×Fr×ae))
def a7i:ot:=λ_ _ _ _ ad J=>some [(.normal,ad,J)]
def a7j(ops:List a3):ot:=λenv aH floor aN ad J=>runOps env floor (callV env aH floor) aN.isNone ops ad J
def a7k(ops:List a3):ot:=λenv aH floor _ ad J=>match jg env floor (callV env aH floor) ops ad [] [] J with
  |some (bc,cO,ws,ag)=>
   cond (ws.all (steady env floor (ag::cO).reverse)&&swapOk env bc.bf ops) (some [(.normal,bc,ag)]) none
  |none=>none
def a7l(a b:bO):ot:=λ_ aH floor aN ad J=>hB (aH floor aN a ad J) (zA aH floor aN b)
def a7m(c:aI)(a b:bO):ot:=λenv aH floor aN ad J=>match zy env ad.bf c with
  |some (.b t)=>aH floor aN (cond t a b) ad J
  |_=>none
def a7n(id:Nat)(a:bO):ot:=λ_ aH floor aN ad J=>hB (aH floor aN a ad J) (Lg id)
def a7o(a:bO):ot:=λ_ aH floor aN ad J=>hB (aH floor aN a ad J) (zA aH floor aN (.loop a))
def a7p(a:bO):ot:=λ_ aH floor aN ad J=>aH floor aN a ad J
def a7q(id:Nat):ot:=λ_ _ _ _ ad J=>some [(.exit id,ad,J)]
def a7r:ot:=λ_ _ _ _ ad J=>some [(.ret,ad,J)]
def a7s(f:aI)(aE:List Nat)(as b:bO):ot:=λenv aH floor aN ad J=>step env aH floor aN (.rangeFunc f aE as b) ad J
def a7t:ot:=λ_ _ _ _ _ _=>none
def a7u(c:bO):ot:=
 bO.rec (motive:=λ_=>ot) a7i a7j a7k (λa b _ _=>a7l a b) (λc a b _ _=>a7m c a b) (λid a _=>a7n id a) (λa _=>a7o a) (λa _=>a7p a) (λf aE a b _ _=>a7s f aE a b) a7q a7r a7t c
def SY(env:Env)(aH:jf):jf:=λfloor aN c ad J=>a7u c env aH floor aN ad J
def exec(env:Env)(n:Nat):jf:=Nat.rec (motive:=λ_=>jf) (λ_ _ _ _ _=>none) (λ_ aH=>SY env aH) n
def SZ(env:Env)(n g:Nat)(args:List AV):Option AV:=
 match runF env (exec env n) 0 g args ⟨.nil,0⟩ with
 |some l=>joinF env.bt 0 l
 |none=>none
def xz(s:ByteArray):List Nat:=s.data.toList.map (·.toNat)
def ofLeaf:Value->Option AV
 | .bool b=>some (.b b)
 | .int k n=>some (.i k n)
 | .string s=>some (.s (xz s))
 | .pointer none=>some (.p none)
 | .slice none 0 0=>some .af
 | .map none=>some (.m none)
 | .nilFunc=>some .d_
 | .nilIface=>some .fJ
 |_=>none
def mapOL{α β:Type}(f:α->Option β):List α->Option (List β)
 |[]=>some []
 |x::xs=>match f x,mapOL f xs with
  |some y,some ba=>some (y::ba)
  |_,_=>none
def ofValue:Value->Option AV
 | .agg l=>match mapOL ofLeaf l.toList with|some l=>some (.ah l)|none=>none
 | .iface t v=>match ofLeaf v with|some v=>some (.it t v)|none=>none
 |v=>ofLeaf v
section
variable (P:Program)
def shapeOf(t:TypeId):Option (Option Nat):=
 match P.underlying t,P.info? t with
 |some (.struct _),some i=>some (some i.size)
 |some (.array _ _),some i=>some (some i.size)
 |some (.struct _),none=>none
 |some (.array _ _),none=>none
 |some _,some i=>if i.size=1 then some none else none
 |_,_=>none
def zeroOf(t:TypeId):Option AV:=
 match P.info? t with
 |some i=>match i.zero with
  |some v=>ofValue v
  |none=>none
 |none=>none
def opdOf:Operand->Option aI
 | .tmp t=>some (.t t)
 | .const v=>match ofValue v with|some v=>some (.c v)|none=>none
 | .global g=>some (.g g)
 | .func f=>some (.c (.f (.func f) [] []))
def xA(l:List Operand):Option (List aI):=mapOL opdOf l
def opdO:Option Operand->Option (Option aI)
 |none=>some none
 |some x=>match opdOf x with|some x=>some (some x)|none=>none
def fieldOf(t:TypeId)(i:Nat):Option (Nat×Option Nat):=
 match P.underlying t with
 |some (.struct a8)=>match a8[i]? with
  |some f=>match shapeOf P f.type with
   |some aa=>if shN aa=0 then none else some (f.offset,aa)
   |none=>none
  |none=>none
 |_=>none
def elemOf'(t:TypeId):Option (TypeId×Option Nat):=
 match P.underlying t with
 |some (.slice e)=>match shapeOf P e with|some aa=>some (e,aa)|none=>none
 |_=>none
def calleeOf:Callee->Option sM
 | .value (.func f)=>some (.fn f)
 | .value x=>match opdOf x with|some x=>some (.val x)|none=>none
 |_=>none
def isU8(t:TypeId):Bool:=match P.underlying t with|some (.int .u8)=>true|_=>false
def leafKind(t:TypeId):Option Nat:=
 match P.underlying t with
 |some (.int _)=>some 0
 |some .string=>some 1
 |some .bool=>some 2
 |_=>none
def keyOk(t:TypeId):Option (Nat ⊕ List Nat):=
 match leafKind P t with
 |some k=>some (.inl k)
 |none=>
  match P.underlying t with
  |some (.struct a8)=>if !P.stoodInHeld t&&a8.toList.zipIdx.all (λ(f,i)=>decide (f.name≠ "_")&&decide (f.offset=i)&&decide (shapeOf P f.type=some none)) then
    (mapOL (λf=>leafKind P f.type) a8.toList).map .inr else none
  |_=>none
def isInt(t:TypeId):Bool:=match P.underlying t with|some (.int _)=>true|_=>false
def isText(t:TypeId):Bool:=match P.underlying t with|some (.slice _)=>true|some .string=>true|_=>false
def flatS:Nat->List Field->Option (List Nat)
 |_,[]=>some []
 |i,f::a8=>
  if f.name≠ "_" ∧f.offset=i then
   match leafKind P f.type with
   |some k=>if shapeOf P f.type=some none then(flatS (i+1) a8).map λl=>k::l else none
   |none=>match keyOk P f.type with
    |some (.inr bz)=>if shapeOf P f.type=some (some bz.length) then(flatS (i+bz.length) a8).map λl=>bz++l else none
    |_=>none
  else none
def stK(t:TypeId):Option Nat:=
 match P.underlying t with
 |some (.struct a8)=>if P.stoodInHeld t=true then none else match flatS P 0 a8.toList with
  |some bz=>if SW 40 (F2 bz)=bz/\P.eqGuardType P.depth t=false then some (10+F2 bz) else none
  |none=>none
 |_=>none
def cop(o:Oper):Option AOp:=
 match o.op with
 | .move x=>(opdOf x).map .bh
 | .assign x=>(opdOf x).map .bh
 | .pick c a b=>do return .pick (←opdOf c) (←opdOf a) (←opdOf b)
 | .alloc e=>(zeroOf P e).map .alloc
 | .box _ x=>(opdOf x).map .box
 | .build t aE=>do
  let .ah z <-zeroOf P t|none
  match P.underlying t with
  |some (.struct a8)=>
   if a8.any (λf=>(P.info? f.type).isNone) then none else
   let l <-mapOL (λ(p:Nat×Operand)=>match fieldOf P t p.1,opdOf p.2 with|some (off,aa),some x=>some (off,shN aa,x)|_,_=>none) aE.toList
   return .build z l
  |some (.array _ e)=>do
   let aa <-shapeOf P e
   let l <-mapOL (λ(p:Nat×Operand)=>match opdOf p.2 with|some x=>some (p.1*shN aa,shN aa,x)|none=>none) aE.toList
   return .build z l
  |_=>none
 | .buildSlice t n aE=>do
  let(e,aa) <-elemOf' P t
  let z <-zeroOf P e
  let l <-mapOL (λ(p:Nat×Operand)=>match opdOf p.2 with|some x=>some (p.1,x)|none=>none) aE.toList
  if n*shN aa<=16777216/\z.cells.length=shN aa then return .buildSlice aa n z.cells l else none
 | .insert t m k v| .mapUpdate t m k v=>
  match P.underlying t with
  |some (.map iO _)=>do return .j9 (←keyOk P iO) (←opdOf m) (←opdOf k) (←opdOf v)
  |_=>none
 | .load t a=>do return .load (←shapeOf P t) (←opdOf a)
 | .store t a v=>do return .store (←shapeOf P t) (←opdOf a) (←opdOf v)
 | .nilCheck x=>(opdOf x).map .nilCheck
 | .binOp op t x y _=>do
  let x <-opdOf x;let y <-opdOf y
  match P.underlying t,op with
  |some (.int _),_=>return .bin op x y
  |some .string,_=>return .bin op x y
  |some .bool,.eql=>return .zv false x y
  |some .bool,.neq=>return .zv true x y
  |some (.interface _),.eql=>return .j8 0 false x y
  |some (.interface _),.neq=>return .j8 0 true x y
  |some (.pointer _),.eql=>return .j8 1 false x y
  |some (.pointer _),.neq=>return .j8 1 true x y
  |some (.func _ _ _),.eql=>return .j8 2 false x y
  |some (.func _ _ _),.neq=>return .j8 2 true x y
  |some (.slice _),.eql=>return .j8 3 false x y
  |some (.slice _),.neq=>return .j8 3 true x y
  |some (.map _ _),.eql=>return .j8 4 false x y
  |some (.map _ _),.neq=>return .j8 4 true x y
  |some (.struct _),.eql=>(stK P t).map λk=>.j8 k false x y
  |some (.struct _),.neq=>(stK P t).map λk=>.j8 k true x y
  |_,_=>none
 | .unOp .not _ x=>(opdOf x).map .not
 | .unOp .neg _ x=>(opdOf x).map .neg
 | .unOp _ _ _=>none
 | .convert s d x=>
  match P.underlying s,P.underlying d with
  |some (.int _),some (.int k)=>(opdOf x).map (.conv k)
  |some .string,some (.slice e)=>if isU8 P e then(opdOf x).map .Cj else none
  |some (.slice e),some .string=>if isU8 P e then(opdOf x).map .FX else none
  |_,_=>none
 | .makeInterface t x=>match P.underlying t with
  |some (.interface _)=>none
  |some _=>(opdOf x).map (.FY t)
  |none=>none
 | .makeFunc fn a c=>match fn with
  | .func f=>do return .fM (.func f) (←xA a.toList) (←xA c.toList)
  |_=>none
 | .makeMap t r=>match P.underlying t,r with
  |some (.map _ _),none=>some .mkMap
  |some (.map _ _),some (.const (.int _ _))=>some .mkMap
  |_,_=>none
 | .makeSlice t l c=>do
  let(e,aa) <-elemOf' P t
  let z <-zeroOf P e
  let i <-P.info? e
  if z.cells.length=shN aa then return .mkSlice aa i.bytes z.cells (←opdOf l) (←opdOf c) else none
 | .slice t x l h m=>do
  let l <-opdO l;let h <-opdO h;let m <-opdO m
  match P.underlying t with
  |some (.array n e)=>match m with
   |none=>return .vH n (←shapeOf P e) (←opdOf x) l h
   |some _=>none
  |some (.slice e)=>match shapeOf P e with
   |some aa=>if m.isSome/\h.isNone then none else return .m5 aa (←opdOf x) l h m
   |none=>none
  |some .string=>match m with
   |none=>return .iN (←opdOf x) l h
   |some _=>none
  |_=>none
 | .fieldAddr t x i=>do
  let(off,aa) <-fieldOf P t i
  return .fieldAddr off aa (←opdOf x)
 | .field t x i=>do
  let(off,aa) <-fieldOf P t i
  return .field off aa (←opdOf x)
 | .indexAddr t x i=>
  match P.underlying t with
  |some (.array n e)=>do return .rl n (←shapeOf P e) (←opdOf x) (←opdOf i)
  |some (.slice e)=>do return .bj (←shapeOf P e) (←opdOf x) (←opdOf i)
  |_=>none
 | .index t x i=>
  match P.underlying t with
  |some (.array n e)=>do return .zw n (←shapeOf P e) (←opdOf x) (←opdOf i)
  |some .string=>do return .k1 (←opdOf x) (←opdOf i)
  |_=>none
 | .lookup t x k ok=>
  match P.underlying t with
  |some (.map iO e)=>do return .lookup (←keyOk P iO) (←opdOf x) (←opdOf k) (←zeroOf P e) ok
  |_=>none
 | .range t x=>match P.underlying t with
  |some (.map _ _)=>(opdOf x).map .rangeMap
  |_=>none
 | .next x false=>(opdOf x).map .sN
 | .entry x=>(opdOf x).map .entry
 | .typeAssert x _ t ok=>
  match P.underlying t with
  |some (.interface _)=>none
  |some _=>do return .FZ (←opdOf x) t (←zeroOf P t) ok
  |none=>none
 | .extract x i=>do return .extract (←opdOf x) i
 | .call {callee:=.builtin b,args,argTypes}=>
  match b,args.toList,argTypes.toList with
  | .append,[s,x],[t,u]=>do
   let(e,aa) <-elemOf' P t
   let i <-P.info? e
   let z <-zeroOf P e
   if isText P u/\i.bytes≠0/\z.cells.length=shN aa then return .append aa i.bytes (←opdOf s) (←opdOf x)
   else if isInt P u/\i.bytes≠0/\z.cells.length=shN aa/\0<shN aa then return .mkSlice aa i.bytes (.fJ::z.cells) (←opdOf s) (←opdOf x) else none
  | .len,[x],[t]=>match P.underlying t with
   |some (.array n _)=>some (.F0 n)
   |some .string=>(opdOf x).map (.len 0)
   |some (.slice _)=>(opdOf x).map (.len 1)
   |some (.map _ _)=>(opdOf x).map (.len 2)
   |_=>none
  | .cap,[x],[t]=>match P.underlying t with
   |some (.slice _)=>(opdOf x).map .cap
   |_=>none
  | .clear,[x],[t]=>match elemOf' P t with
   |some (e,aa)=>do
    let z <-zeroOf P e
    if z.cells.length=shN aa then return .copy aa (←opdOf x) (.c (.ah z.cells)) else none
   |none=>none
  | .min,[x,y],_=>do return .rm false (←opdOf x) (←opdOf y)
  | .max,[x,y],_=>do return .rm true (←opdOf x) (←opdOf y)
  | .recover,[],_=>some .recover
  | .panic,[x],_=>(opdOf x).map .panic
  |_,_,_=>none
 | .call c=>do return .call (←calleeOf c.callee) (←xA c.args.toList)
 | .defer {callee:=.builtin _,..}=>none
 | .defer c=>do return .k2 (←calleeOf c.callee) (←xA c.args.toList)
 | .panic x=>(opdOf x).map .panic
 |_=>none
def copB(o:Oper):AOp:=match cop P o with|some x=>x|none=>.bad
def guardOf(ops:Array Oper)(o:Oper):Option (Option (Nat×Bool)):=
 match o.guard with
 |none=>some none
 |some (j,w)=>match(ops[j]?).bind (·.dst) with
  |some d=>some (some (d,w))
  |none=>none
def coper(ops:Array Oper)(o:Oper):Option a3:=
 match guardOf ops o with
 |some g=>some {dst:=o.dst,op:=copB P o,guard:=g,j_:=[]}
 |none=>none
def rr(o:Oper):List Nat:=(o.after.toList.filter (Region.binds .any)).map (·.on)
def Cn:Nat->List (Nat×Bool×List Nat)->Nat->List Nat
 |0,_,_=>[]
 |fuel+1,rem,mask=>
  match(match rem.find? (λx=>!x.2.1&&x.2.2.all (λd=>mask.testBit d)) with|some x=>some x|none=>rem.find? (λx=>x.2.2.all (λd=>mask.testBit d))) with
  |some x=>x.1::Cn fuel (rem.filter λy=>!Nat.beq y.1 x.1) (mask ||| 1 <<< x.1)
  |none=>[]
def zB(A:List Nat)(es:List Nat):Nat:=es.foldr (λd acc=>(1 <<< d ||| A.getD d 0) ||| acc) 0
def F5{α:Type}(f:α->α->Bool):List α->Bool
 |[]=>true
 |x::xs=>xs.all (f x)&&F5 f xs
def indep(x y:a3):Bool:=(match x.dst with|some d=>!y.reads.contains d|none=>true)&&(match y.dst with|some d=>!x.reads.contains d|none=>true)
def Lh:AOp->Bool
 | .store _ _ _=>true
 |_=>false
def S0(x:a3):Bool:=!x.op.fT&&(!x.op.k3&& !x.op.looks)
def S1(A:List Nat)(pl:List a3)(x y:a3×Nat):Bool:=
 Nat.beq (x.2+1) y.2&&(Nat.beq (y.2+1) pl.length&&(Lh x.1.op&&(Lh y.1.op&&(x.1.dst.isNone&&(y.1.dst.isNone&&(x.1.guard.isNone&&(y.1.guard.isNone&&(!y.1.j_.isEmpty&&
  pl.zipIdx.all λr=>!Nat.blt r.2 x.2||((A.getD y.2 0).testBit r.2||S0 r.1)))))))))
def pairOk(A:List Nat)(pl:List a3)(x y:a3×Nat):Bool:=
 let Ch:=(A.getD y.2 0).testBit x.2
 (match x.1.dst,y.1.dst with|some d,some e=>!Nat.beq d e|_,_=>true)&&(Ch||(indep x.1 y.1&&(!x.1.op.fT||S1 A pl x y)))
def F6(x:a3):Bool:=x.op.fT||x.op.k3
def S2(A:List Nat)(es:List Nat)(cs:List Nat)(n:Nat)(x:a3×Nat):Bool:=
 !x.1.op.looks||(n::es).all λq=>!Nat.blt x.2 q||(x.1.j_.contains q||(es.any (λe=>Nat.blt x.2 e&&(Nat.blt e q&&(A.getD e 0).testBit x.2))||cs.all λc=>!(Nat.blt x.2 c&&Nat.blt c q)))
def a7v(A:List Nat)(es:List Nat)(cs:List Nat)(n:Nat)(x:a3×Nat):List Nat:=
 if Lh x.1.op&&(Nat.beq (x.2+1) n&&(Nat.blt 0 x.2&&(es.contains (x.2-1)&& !(A.getD x.2 0).testBit (x.2-1)))) then[x.2-1]
 else if x.1.op.looks then(es++[n]).filter λq=>Nat.blt x.2 q&&(!es.any (λe=>Nat.blt x.2 e&&(Nat.blt e q&&(A.getD e 0).testBit x.2))&& !cs.all λc=>!(Nat.blt x.2 c&&Nat.blt c q)) else[]
def posOf(p:a3->Bool)(pl:List a3):List Nat:=(pl.zipIdx.filter λx=>p x.1).map (·.2)
def S3(n:Nat)(bk c8:List Nat):Bool:=
 Nat.beq bk.length n&&(Nat.beq c8.length n&&(bk.zipIdx.all (λx=>Nat.blt x.1 n&&Nat.beq (c8.getD x.1 0) x.2)&&c8.zipIdx.all (λx=>Nat.blt x.1 n&&Nat.beq (bk.getD x.1 0) x.2)))
def zC(ds:List (List Nat))(c8:List Nat)(i:Nat):List Nat:=(ds.getD i []).map λj=>c8.getD j 0
def S4(ds:List (List Nat))(bk c8 A:List Nat):Bool:=
 bk.zipIdx.all λx=>(zC ds c8 x.1).all (λd=>Nat.blt d x.2)&&Nat.beq (A.getD x.2 0) (zB A (zC ds c8 x.1))
def S5(n:Nat)(ds:List (List Nat))(pl:List a3)(bk c8 A:List Nat):Bool:=
 S3 n bk c8&&(ds.all (λl=>l.all λd=>Nat.blt d n)&&(S4 ds bk c8 A&&(F5 (pairOk A pl) pl.zipIdx&&pl.zipIdx.all (S2 A (posOf (·.op.fT) pl) (posOf F6 pl) n))))
def S6(l:List a3)(bk:List Nat):Option (List a3):=mapOL (λi=>l[i]?) bk
def Co(A:List Nat)(n:Nat)(pl:List a3):List a3:=
 let es:=posOf (·.op.fT) pl
 let cs:=posOf F6 pl
 pl.zipIdx.map λx=>{x.1 with j_:=a7v A es cs n x}
def cdraw(ops:Array Oper):Option (List a3):=
 match mapOL (coper P ops) ops.toList with
 |none=>none
 |some l=>
  let n:=ops.size
  let ds:=ops.toList.map rr
  let bk:=Cn n ((l.zip ds).zipIdx.map λx=>(x.2,x.1.1.op.fT,x.1.2)) 0
  let c8:=(List.range n).map λi=>bk.findIdx (Nat.beq i)
  let A:=bk.foldl (λacc i=>acc++[zB acc (zC ds c8 i)]) []
  match S6 l bk with
  |none=>none
  |some pl=>if S5 n ds (Co A n pl) bk c8 A then some (Co A n pl) else none
def ccode:Code->Option bO
 | .skip=>some .skip
 | .region _ ops true=>match cdraw P ops with|some l=>some (.draw l)|none=>some .bad
 | .region _ ops false=>match mapOL (coper P ops) ops.toList with|some l=>some (.region l)|none=>some .bad
 | .seq a b=>match ccode a,ccode b with|some a,some b=>some (.seq a b)|_,_=>none
 | .cond c a b=>match opdOf c,ccode a,ccode b with|some c,some a,some b=>some (.cond c a b)|_,_,_=>none
 | .block id a=>match ccode a with|some a=>some (.block id a)|none=>none
 | .loop a=>match ccode a with|some a=>some (.loop a)|none=>none
 | .scope a=>match ccode a with|some a=>some (.scope a)|none=>none
 | .rangeFunc f aE a b=>match opdOf f,ccode a,ccode b with|some f,some a,some b=>some (.rangeFunc f aE.toList a b)|_,_,_=>none
 | .exit id=>some (.exit id)
 | .ret=>some .ret
 | .label _=>some .skip
 | .goto _=>some .bad
 | .refuse _=>some .bad
def resOf:ResultVar->Option (Nat×Option (Option Nat))
 | .tmp t=>some (t,none)
 | .cell a t=>match shapeOf P t with|some aa=>some (a,some aa)|none=>none
def cfunc(f:Func):Option aP:=
 match mapOL (resOf P) f.results.toList with
 |some rs=>match f.body with
  |none=>none
  |some c=>match ccode P c with
   |some c=>some {kr:=f.params.size+f.nfree,ntmps:=f.ntmps,results:=rs,body:=some c}
   |none=>none
 |none=>none
end
section
def strOf(l:List Nat):ByteArray:=⟨(l.map Nat.toUInt8).toArray⟩
def eD(w:World)(b:Nat):Option Nat:=
 match w.heap[b]? with
 |some (.cells c _ _)=>some c.size
 |_=>none
class Tok where
 Cp:Nat->AV
 pd:Bool->Nat->AV
variable [Tok]
inductive Cq:AV->Value->Prop
 |i (k:IntKind) (n:Int):Cq (.i k n) (.int k n)
 |s (l:List Nat) (h:∀c∈l,c<256):Cq (.s l) (.string (strOf l))
theorem Cq.alt{a:AV}{u:Value}(h:Cq a u):(∃k n,u= .int k n)\/∃s,u= .string s:=by
 cases h with
 |i k n=>exact .inl ⟨_,_,rfl⟩
 |s l h=>exact .inr ⟨_,rfl⟩
inductive R(w:World):(Nat->Option Nat)->(Nat->Prop)->Nat->AV->Value->Prop
 |b {m:Nat->Option Nat} {O:Nat->Prop} {B:Nat} (x:Bool):R w m O B (.b x) (.bool x)
 |i {m:Nat->Option Nat} {O:Nat->Prop} {B:Nat} (k:IntKind) (n:Int):R w m O B (.i k n) (.int k n)
 |s {m:Nat->Option Nat} {O:Nat->Prop} {B:Nat} (l:List Nat) (h:∀c∈l,c<256):R w m O B (.s l) (.string (strOf l))
 |qi {m:Nat->Option Nat} {O:Nat->Prop} {B:Nat}:R w m O B (.p none) (.pointer none)
 |p {m:Nat->Option Nat} {O:Nat->Prop} {B:Nat} {id aF off:Nat} (h:m id=some aF):R w m O B (.p (some (id,off))) (.pointer (some ⟨aF,off,none⟩))
 |dG {m:Nat->Option Nat} {O:Nat->Prop} {B:Nat} {old:Bool} {v:AV} {aF off:Nat} (ba:Nat->Value) (cp:¬O aF) (hb:aF<w.heap.size) (b3:old=false->B<=aF)
   (ab:∀j,j<v.cells.length->w.cell? ⟨aF,off+j,none⟩=some (ba j)) (al:∀j (h:j<v.cells.length),R w (λ_=>none) O B (v.cells[j]) (ba j)) (hf:∀x∈v.cells,conf none x=true):
   R w m O B (.dG old v) (.pointer (some ⟨aF,off,none⟩))
 |af {m:Nat->Option Nat} {O:Nat->Prop} {B:Nat}:R w m O B .af (.slice none 0 0)
 |ao {m:Nat->Option Nat} {O:Nat->Prop} {B:Nat} {id off len aF n fZ:Nat} {aa cap:Option Nat} (h:m id=some aF) (hl:len<=fZ) (ab:∀c,cap=some c->fZ=c) (hn:eD w aF=some n) (mw:off+fZ*shN aa<=n):
   R w m O B (.ao id off len aa cap) (.slice (some ⟨aF,off,none⟩) len fZ)
 |lD {m:Nat->Option Nat} {O:Nat->Prop} {B:Nat} {old:Bool} {aa:Option Nat}:R w m O B (.a_ old aa []) (.slice none 0 0)
 |a_ {m:Nat->Option Nat} {O:Nat->Prop} {B:Nat} {old:Bool} {aa:Option Nat} {xs:List AV} {aF off fZ:Nat} {sp:Option Nat} (ba:Nat->Nat->Value) (cp:xs≠[]->¬O aF/\aF<w.heap.size/\(old=false->B<=aF))
   (an:∀i (h:i<xs.length),conf aa (xs[i])=true)
   (ab:∀i (h:i<xs.length),∀j,j<(xs[i]).cells.length->w.cell? ⟨aF,off+i*shN aa+j,none⟩=some (ba i j))
   (al:∀i (h:i<xs.length),∀j (aC:j<(xs[i]).cells.length),R w (λ_=>none) O B ((xs[i]).cells[j]) (ba i j)) (hl:xs.length<=fZ) (hf:∀v∈xs,∀x∈v.cells,conf none x=true) (fu:xs≠[]->sp=none):
   R w m O B (.a_ old aa xs) (.slice (some ⟨aF,off,sp⟩) xs.length fZ)
 |ou {m:Nat->Option Nat} {O:Nat->Prop} {B:Nat}:R w m O B (.m none) (.map none)
 |mp {m:Nat->Option Nat} {O:Nat->Prop} {B:Nat} {id aF:Nat} (h:m id=some aF):R w m O B (.m (some id)) (.map (some aF))
 |cQ {m:Nat->Option Nat} {O:Nat->Prop} {B:Nat} {g:Nat} {a8 cs:List AV} {gR fv:Array Value} (hf:gR.size=a8.length) (bC:∀i (h:i<a8.length) (h':i<gR.size),R w m O B (a8[i]) (gR[i]))
   (ab:fv.size=cs.length) (sS:∀i (h:i<cs.length) (h':i<fv.size),R w m O B (cs[i]) (fv[i])):R w m O B (.f (.func g) a8 cs) (.func (.func g) gR fv)
 |ur {m:Nat->Option Nat} {O:Nat->Prop} {B:Nat} {l aF:Nat} (h:m l=some aF):R w m O B (.f (.yield l) [] []) (.func (.yield aF) #[] #[])
 |d_ {m:Nat->Option Nat} {O:Nat->Prop} {B:Nat}:R w m O B .d_ .nilFunc
 |it {m:Nat->Option Nat} {O:Nat->Prop} {B:Nat} {t:TypeId} {v:AV} {u:Value} (h:R w m O B v u):R w m O B (.it t v) (.iface t u)
 |fJ {m:Nat->Option Nat} {O:Nat->Prop} {B:Nat}:R w m O B .fJ .nilIface
 |ah {m:Nat->Option Nat} {O:Nat->Prop} {B:Nat} {l:List AV} {bo:Array Value} (an:bo.size=l.length) (al:∀i (h:i<l.length) (h':i<bo.size),R w m O B (l[i]) (bo[i])) (hf:∀x∈l,conf none x=true):R w m O B (.ah l) (.agg bo)
 |a9 {m:Nat->Option Nat} {O:Nat->Prop} {B:Nat} {l:List AV} {bo:Array Value} (an:bo.size=l.length) (al:∀i (h:i<l.length) (h':i<bo.size),R w m O B (l[i]) (bo[i])):R w m O B (.a9 l) (.tuple bo)
 |hc {m:Nat->Option Nat} {O:Nat->Prop} {B:Nat} {k:IntKind} {d j n:Nat} (h:n%d=j) (hn:n<256):R w m O B (.hc k d j) (.int k (Int.ofNat n))
 |hP {m:Nat->Option Nat} {O:Nat->Prop} {B:Nat} {ex:List (List Nat)} {s:ByteArray} (h:∀e∈ex,s≠strOf e):R w m O B (.hP ex) (.string s)
 |im {m:Nat->Option Nat} {O:Nat->Prop} {B:Nat} {hi:Bool} (n:Int) (h:hi=decide (40<n)):R w m O B (.im hi) (.int .i64 n)
 |y {m:Nat->Option Nat} {O:Nat->Prop} {B i:Nat} {u:Value} (h:Cq (Tok.Cp i) u):R w m O B (.y i) u
 |gi {m:Nat->Option Nat} {O:Nat->Prop} {B i:Nat} {old:Bool} {u:Value} {a:Option Addr} {l c:Nat} (hu:u= .slice a l c) (h:R w (λ_=>none) O B (Tok.pd old i) u):R w m O B (.gi old i) u
class TokOk:Prop where
 snap:∀ {w:World} {O:Nat->Prop} {B eE i:Nat} {old:Bool} {u:Value},R w (λ_=>none) O B (Tok.pd old i) u->R w (λ_=>none) (λ_=>False) eE (Tok.pd true i) u
 fresh:∀ {w:World} {O:Nat->Prop} {B i:Nat} {u:Value},R w (λ_=>none) O B (Tok.pd false i) u->R w (λ_=>none) (λb=>b<B) B (Tok.pd false i) u
def bK(w:World)(m:Nat->Option Nat)(O:Nat->Prop)(B:Nat)(l:List AV)(bo:List Value):Prop:=
 bo.length=l.length/\∀i (h:i<l.length) (h':i<bo.length),R w m O B (l[i]) (bo[i])
def iP(w:World)(m:Nat->Option Nat)(O:Nat->Prop)(B:Nat)(ao:a1 AV)(bo:List Value):Prop:=
 (∀i v,ao.get i=some v->∃u,bo[i]? =some u/\R w m O B v u)/\∀i,ao.get i=none->bo[i]? =none
theorem S7{w aw:World}{a:Addr}(h:aw.heap[a.block]? =w.heap[a.block]?):aw.cell? a=w.cell? a:=by
 unfold World.cell?;rw[h]
theorem R.mono{w aw:World}{m aW:Nat->Option Nat}{O ka:Nat->Prop}{B:Nat}(hm:∀id aF,m id=some aF->aW id=some aF)(cv:w.heap.size<=aw.heap.size)
  (hj:∀b n,eD w b=some n->eD aw b=some n) (ay:∀aF,aF<w.heap.size->¬O aF->aw.heap[aF]? =w.heap[aF]? ∧¬ka aF) {v:AV} {u:Value} (h:R w m O B v u):R aw aW ka B v u:=by
 induction h generalizing aW with
 |b x=>exact .b x
 |i k n=>exact .i k n
 |s l h=>exact .s l h
 |qi=>exact .qi
 |p h=>exact .p (hm _ _ h)
 |dG ba cp hb b3 ab al hf aH=>exact .dG ba (ay _ hb cp).2 U b3 (λj aC=>by rw[S7 (w:=w) (ay _ hb cp).1];exact ab j aC) (λj aC=>aH j aC (aW:=λ_=>none) (λ_ _ h=>by cases h) ay) hf
 |af=>exact .af
 |ao h hl ab hn mw=>exact .ao (hm _ _ h) hl ab (hj _ _ hn) mw
 |lD=>exact .lD
 | @a_ _ _ _ old aa xs aF off fZ sp ba cp an ab al hl hf fu aH=>
  by_cases hx:xs=[]
  ·subst hx;exact .a_ ba (λh=>absurd I h) an (λi h=>by simp at h) (λi h=>by simp at h) hl hf fu
  ·obtain⟨h1,h2,h3⟩:=cp hx;exact .a_ ba (λ_=>⟨(ay _ h2 h1).2,U,h3⟩) an (λi h j aC=>by rw[S7 (w:=w) (ay _ h2 h1).1];exact ab i h j aC) (λi h j aC=>aH i h j aC (aW:=λ_=>none) (λ_ _ h=>by cases h) ay) hl hf fu
 |ou=>exact .ou
 |mp h=>exact .mp (hm _ _ h)
 |cQ hf bC ab sS Li ru=>exact .cQ hf (λi h h'=>Li i h h' hm ay) ab (λi h h'=>ru i h h' hm ay)
 |ur h=>exact .ur (hm _ _ h)
 |d_=>exact .d_
 |it _ aH=>exact .it (aH hm ay)
 |fJ=>exact .fJ
 |ah an _ hf aH=>exact .ah an (λi h h'=>aH i h h' hm ay) hf
 |a9 an _ aH=>exact .a9 an (λi h h'=>aH i h h' hm ay)
 |hc h hn=>exact .hc h hn
 |hP h=>exact .hP h
 |im n h=>exact .im n h
 |y h=>exact .y h
 |gi hu _ aH=>exact .gi hu (aH (λ_ _ h=>by cases h) ay)
theorem R.up{w:World}{m:Nat->Option Nat}{O:Nat->Prop}{B:Nat}{v:AV}{u:Value}(h:R w (λ_=>none) O B v u):R w m O B v u:=
 h.mono (λ_ _ h=>by cases h) (br _) (λ_ _ h=>h) (λ_ _ h=>⟨rfl,h⟩)
def AO.isDead:AO->Bool
 | .dead=>true
 |_=>false
def live(J:ae)(id:Nat):Prop:=∃o,J.get id=some o/\o.isDead=false
def bp(J:ae)(m:Nat->Option Nat)(aF:Nat):Prop:=∃id,m id=some aF/\live J id
def xB(f:Nat)(J:ae)(m:Nat->Option Nat)(aF:Nat):Prop:=∃id,f<=id/\m id=some aF/\live J id
def F7(P:Program):Option bO->Option Code->Prop
 |none,none=>True
 |some c,some d=>ccode P d=some c/\(c= .ret\/∃id,c= .exit id)
 |_,_=>False
inductive mx(P:Program)(w:World)(m:Nat->Option Nat)(O:Nat->Prop)(B:Nat):AO->Obj->Prop
 |cells {c:List AV} {arr:Array Value} {el:TypeId} {bt:Nat×Nat} (hl:c.length<=arr.size) (al:∀i (h:i<c.length) (h':i<arr.size),R w m O B (c[i]) (arr[i]))
   (bb:∀i,i<arr.size->(decide (bt.1<=i)&&decide (i<bt.2))=false) (hf:∀x∈c,conf none x=true):mx P w m O B (.cells c) (.cells arr el bt)
 |map {es:List (AV×AV×Nat)} {dR:Array MapEntry} {clock:Nat} (hl:dR.size=es.length)
   (al:∀i (h:i<es.length) (h':i<dR.size),R w m O B (es[i]).1 (dR[i]).key/\R w m O B (es[i]).2.1 (dR[i]).val/\(dR[i]).born=(es[i]).2.2):mx P w m O B (.map es clock) (.map dR clock)
 |mapIter {id:Option Nat} {b:Option Nat} {since g1:Nat} {seen:List Nat} (hb:match id,b with|none,none=>True|some i,some j=>m i=some j|_,_=>False):
   mx P w m O B (.mapIter id since seen g1) (.mapIter b since seen.toArray g1)
 |loop {st:LoopState} {l1:Option bO} {nE:Option Code} {bf:a1 AV} {tmps:Array Value} {aE:List Nat} {as b:bO} {h5 fK:Code} {d D:Nat} {fn:FuncId}
   (my:F7 P l1 nE) (an:iP w m O B bf tmps.toList) (ha:ccode P h5=some as) (hb:ccode P fK=some b) (hd:m d=some D):
   mx P w m O B (.loop st l1 bf aE as b d) (.loop {state:=st,pending:=nE,fn,tmps,params:=aE.toArray,assign:=h5,body:=fK,defers:=D})
 |eo:mx P w m O B .eo (.deferred (some []))
theorem bK.mono{w aw:World}{m aW:Nat->Option Nat}{O ka:Nat->Prop}{B:Nat}(hm:∀id aF,m id=some aF->aW id=some aF)(cv:w.heap.size<=aw.heap.size)
  (hj:∀b n,eD w b=some n->eD aw b=some n) (ay:∀aF,aF<w.heap.size->¬O aF->aw.heap[aF]? =w.heap[aF]? ∧¬ka aF) {l:List AV} {bo:List Value} (h:bK w m O B l bo):bK aw aW ka B l bo:=
 ⟨h.1,λi hi dc=>(h.2 i hi dc).mono hm cv hj ay⟩
theorem iP.mono{w aw:World}{m aW:Nat->Option Nat}{O ka:Nat->Prop}{B:Nat}(hm:∀id aF,m id=some aF->aW id=some aF)(cv:w.heap.size<=aw.heap.size)
  (hj:∀b n,eD w b=some n->eD aw b=some n) (ay:∀aF,aF<w.heap.size->¬O aF->aw.heap[aF]? =w.heap[aF]? ∧¬ka aF) {l:a1 AV} {bo:List Value} (h:iP w m O B l bo):iP aw aW ka B l bo:=
 ⟨λi v hi=>let⟨u,h1,h2⟩:=h.1 i v hi;⟨u,h1,h2.mono hm cv hj ay⟩,h.2⟩
theorem mx.mono{P:Program}{w aw:World}{m aW:Nat->Option Nat}{O ka:Nat->Prop}{B:Nat}(hm:∀id aF,m id=some aF->aW id=some aF)(cv:w.heap.size<=aw.heap.size)
  (hj:∀b n,eD w b=some n->eD aw b=some n) (ay:∀aF,aF<w.heap.size->¬O aF->aw.heap[aF]? =w.heap[aF]? ∧¬ka aF) {o:AO} {bU:Obj} (h:mx P w m O B o bU):mx P aw aW ka B o bU:=by
 cases h with
 |cells hl al bb hf=>exact .cells hl (λi h h'=>(al i h h').mono hm cv hj ay) bb hf
 |map hl al=>exact .map hl (λi h h'=>⟨(al i h h').1.mono hm cv hj ay,(al i h h').2.1.mono hm cv hj ay,(al i h h').2.2⟩)
 | @mapIter id b _ _ _ hb=>exact .mapIter (by cases id<;>cases b<;>first|exact hb|exact hm _ _ hb)
 |loop my an ha hb hd=>exact .loop my (an.mono hm cv hj ay) ha hb (hm _ _ hd)
 |eo=>exact .eo
structure Rel(P:Program)(J:ae)(w:World)(m:Nat->Option Nat)(B:Nat):Prop where
 len:True
 fU:∀id aF,m id=some aF->aF<w.heap.size/\id<J.next
 obj:∀id aF o,m id=some aF->J.get id=some o->o.isDead=false->∃bU,w.heap[aF]? =some bU/\mx P w m (bp J m) B o bU
 inj:∀id g3 aF,m id=some aF->m g3=some aF->live J id->live J g3->id=g3
 base:∀id aF,m id=some aF->B<=aF
 mz:B<=w.heap.size
structure Ext(f:Nat)(J:ae)(w:World)(m:Nat->Option Nat)(ag:ae)(aw:World)(aW:Nat->Option Nat):Prop where
 mono:∀id aF,m id=some aF->aW id=some aF
 new:∀id aF,aW id=some aF->m id=some aF\/(J.next<=id/\(w.heap.size<=aF\/xB f J m aF))
 next:J.next<=ag.next
 size:w.heap.size<=aw.heap.size
 bI:∀b n,eD w b=some n->eD aw b=some n
 aS:∀aF,aF<w.heap.size->¬xB f J m aF->aw.heap[aF]? =w.heap[aF]?
 low:∀id,id<f->id<J.next->ag.get id=J.get id
 dead:∀id,id<J.next->live ag id->live J id
 os:aw.os=w.os
 tape:aw.tape=w.tape
 out:aw.output=w.output
 un:∀id,id<J.next->m id=none->ag.get id=J.get id
theorem xB.own{f:Nat}{J:ae}{m:Nat->Option Nat}{aF:Nat}(h:xB f J m aF):bp J m aF:=let⟨id,_,h1,h2⟩:=h;⟨id,h1,h2⟩
theorem Ext.refl(f:Nat)(J:ae)(w:World)(m:Nat->Option Nat):Ext f J w m J w m:=
 ⟨λ_ _ h=>h,λ_ _ h=>.inl h,br _,br _,λ_ _ h=>h,λ_ _ _=>rfl,λ_ _ _=>rfl,λ_ _ h=>h,rfl,rfl,rfl,λ_ _ _=>rfl⟩
theorem Ext.sT{P:Program}{f:Nat}{J ag:ae}{w aw:World}{m aW:Nat->Option Nat}{B:Nat}(h:Ext f J w m ag aw aW)(al:Rel P J w m B)(aF:Nat)(hb:aF<w.heap.size)(cp:¬bp J m aF):
  aw.heap[aF]? =w.heap[aF]? ∧¬bp ag aW aF:=by
 refine⟨h.aS aF hb (λho=>cp ho.own),?_⟩;rintro⟨id,h1,h2⟩;rcases h.new id aF h1 with h3|⟨_,h3|h3⟩
 ·exact cp ⟨id,h3,h.dead id (al.fU _ _ h3).2 h2⟩
 ·omega
 ·exact cp h3.own
theorem R.ext{P:Program}{f:Nat}{J ag:ae}{w aw:World}{m aW:Nat->Option Nat}{B:Nat}(h:Ext f J w m ag aw aW)(al:Rel P J w m B){v:AV}{u:Value}(av:R w m (bp J m) B v u):R aw aW (bp ag aW) B v u:=
 av.mono h.mono h.size h.bI (h.sT al)
theorem iP.ext{P:Program}{f:Nat}{J ag:ae}{w aw:World}{m aW:Nat->Option Nat}{B:Nat}(h:Ext f J w m ag aw aW)(al:Rel P J w m B){v:a1 AV}{u:List Value}(av:iP w m (bp J m) B v u):iP aw aW (bp ag aW) B v u:=
 av.mono h.mono h.size h.bI (h.sT al)
theorem bK.ext{P:Program}{f:Nat}{J ag:ae}{w aw:World}{m aW:Nat->Option Nat}{B:Nat}(h:Ext f J w m ag aw aW)(al:Rel P J w m B){v:List AV}{u:List Value}(av:bK w m (bp J m) B v u):bK aw aW (bp ag aW) B v u:=
 av.mono h.mono h.size h.bI (h.sT al)
theorem Ext.trans{P:Program}{f:Nat}{J ag S8:ae}{w aw zD:World}{m aW S9:Nat->Option Nat}{B:Nat}(h:Ext f J w m ag aw aW)(al:Rel P J w m B)(h':Ext f ag aw aW S8 zD S9):Ext f J w m S8 zD S9 where
 mono id aF hb:=h'.mono _ _ (h.mono _ _ hb)
 new id aF hb:=by
  have key:∀b,xB f ag aW b->w.heap.size<=b\/xB f J m b:=by
   rintro b ⟨i,hf,h1,h2⟩;rcases h.new i b h1 with h3|⟨_,h3⟩
   ·exact .inr ⟨i,hf,h3,h.dead i (al.fU _ _ h3).2 h2⟩
   ·exact h3
  rcases h'.new id aF hb with h1|⟨h1,h2⟩
  ·rcases h.new id aF h1 with h3|⟨h3,aQ⟩
   ·exact .inl h3
   ·exact .inr ⟨h3,aQ⟩
  ·refine .inr ⟨by have:=h.next;omega,?_⟩;rcases h2 with h2|h2
   ·exact .inl (by have:=h.size;omega)
   ·exact key _ h2
 next:=o_ h.next h'.next
 size:=o_ h.size h'.size
 bI b n hb:=h'.bI _ _ (h.bI _ _ hb)
 aS aF hb cp:=by
  have an:=h.size;rw[h'.aS aF U ?_,h.aS aF hb cp];rintro⟨i,hf,h1,h2⟩;rcases h.new i aF h1 with h3|⟨_,h3|h3⟩
  ·exact cp ⟨i,hf,h3,h.dead i (al.fU _ _ h3).2 h2⟩
  ·omega
  ·exact cp h3
 low id hf hn:=by rw[h'.low id hf (by have:=h.next;omega),h.low id hf hn]
 dead id hn hl:=h.dead id hn (h'.dead id (by have:=h.next;omega) hl)
 os:=h'.os.trans h.os
 tape:=h'.tape.trans h.tape
 out:=h'.out.trans h.out
 un id hn hm:=by
  have nF:aW id=none:=by
   cases e:aW id with
   |none=>rfl
   |some b=>
    rcases h.new id b e with h3|⟨h3,_⟩
    ·rw[hm] at h3;cases h3
    ·omega
  rw[h'.un id (by have:=h.next;omega) nF,h.un id hn hm]
theorem Cr{α:Type}(l:List α):∀n,nth l n=l[n]? :=by
 induction l with
 |nil=>intro n;rfl
 |cons x xs aH=>
  intro n;cases n with
  |zero=>rfl
  |succ n=>exact(aH n).trans aG
theorem Lj{α β:Type}(f:α->Option β):mapO f []=some []:=rfl
theorem mapO_cons{α β:Type}(f:α->Option β)(x:α)(xs:List α):mapO f (x::xs)=match f x with|none=>none|some y=>match mapO f xs with|none=>none|some ba=>some (y::ba):=rfl
theorem ov{α β:Type}{f:α->Option β}:∀ {l:List α} {ba:List β},mapO f l=some ba->ba.length=l.length/\∀i (h:i<l.length) (h':i<ba.length),f (l[i])=some (ba[i])
 |[],ba,h=>by simp[Lj] at h;subst h;simp
 |x::xs,ba,h=>by
  rw[mapO_cons] at h;cases hx:f x with
  |none=>simp[hx] at h
  |some y=>
   simp only[hx] at h;cases dH:mapO f xs with
   |none=>simp[dH] at h
   |some fa=>
    simp only[dH,cJ] at h;subst h;obtain⟨h1,h2⟩:=ov dH;refine⟨by simp[h1],λi hi dc=>?_⟩;cases i with
    |zero=>simpa using hx
    |succ i=>simpa using h2 i (by simpa using hi) (by simpa using dc)
theorem pe{i:Nat}(h:i≠0):(Nat.beq (Nat.mod i 2) 1=true/\i=2*Nat.div (Nat.sub i 1) 2+1)\/(Nat.beq (Nat.mod i 2) 1=false/\i=2*Nat.div (Nat.sub i 1) 2+2):=by
 have aR:Nat.mod i 2=i%2:=rfl;have a6:Nat.div (Nat.sub i 1) 2=(i-1)/2:=rfl;rw[aR,a6];rcases SG i with h2|h2
 ·right;rw[h2];exact⟨rfl,U⟩
 ·left;rw[h2];exact⟨rfl,U⟩
section
variable {α:Type}
theorem a1.get_nil(i:Nat):(a1.nil:a1 α).get i=none:=rfl
theorem rv{α:Type}(t:Bool)(a b:α):(Bool.rec (motive:=λ_=>α) b a t:α)=cond t a b:=by cases t<;>rfl
theorem a1.ku(v:Option α)(l r:a1 α)(i:Nat):(a1.node v l r).get i=cond (Nat.beq i 0) v (cond (Nat.beq (Nat.mod i 2) 1) (l.get (Nat.div (Nat.sub i 1) 2)) (r.get (Nat.div (Nat.sub i 1) 2))):=(rv _ _ _).trans (congrArg (cond _ _) (rv _ _ _))
theorem a1.Lk(v:Option α)(l r:a1 α)(i:Nat)(x:α):(a1.node v l r).set i x=cond (Nat.beq i 0) (.node (match v with|some _=>some x|none=>none) l r)
  (cond (Nat.beq (Nat.mod i 2) 1) (.node v (l.set (Nat.div (Nat.sub i 1) 2) x) r) (.node v l (r.set (Nat.div (Nat.sub i 1) 2) x))):=by cases v<;>exact(rv _ _ _).trans (congrArg (cond _ _) (rv _ _ _))
theorem a1.a7w(i:Nat)(x:α):(a1.nil:a1 α).ins i x=a1.zx (i+1) i x:=rfl
theorem a1.a7x(v:Option α)(l r:a1 α)(i:Nat)(x:α):(a1.node v l r).ins i x=cond (Nat.beq i 0) (.node (some x) l r)
  (cond (Nat.beq (Nat.mod i 2) 1) (.node v (l.ins (Nat.div (Nat.sub i 1) 2) x) r) (.node v l (r.ins (Nat.div (Nat.sub i 1) 2) x))):=(rv _ _ _).trans (congrArg (cond _ _) (rv _ _ _))
theorem a1.a7y(f i:Nat)(x:α):a1.zx (f+1) i x=cond (Nat.beq i 0) (.node (some x) .nil .nil) (cond (Nat.beq (Nat.mod i 2) 1) (.node none (a1.zx f (Nat.div (Nat.sub i 1) 2) x) .nil) (.node none .nil (a1.zx f (Nat.div (Nat.sub i 1) 2) x))):=(rv _ _ _).trans (congrArg (cond _ _) (rv _ _ _))
theorem a1.S_(f n:Nat)(x:α):a1.full (f+1) x n=cond (Nat.beq n 0) .nil (.node (some x) (a1.full f x (Nat.div n 2)) (a1.full f x (Nat.div (Nat.sub n 1) 2))):=rfl
theorem jO{i:Nat}(h:i≠0):Nat.beq i 0=false:=by
 cases h1:Nat.beq i 0 with
 |false=>rfl
 |true=>exact absurd (fX h1) h
theorem a1.jh:∀(t:a1 α) (d i:Nat) (x:α),(t.set d x).get i=if i=d then(t.get d).map (λ_=>x) else t.get i
 | .nil,d,i,x=>by
  show(a1.nil:a1 α).get i=_;rw[a1.get_nil,a1.get_nil];simp
 | .node v l r,d,i,x=>by
  rw[a1.Lk];by_cases hd:d=0
  ·subst hd;rw[gH,cond_true,a1.ku,a1.ku,a1.ku];by_cases hi:i=0
   ·subst hi;rw[gH,cond_true,cond_true,if_pos I];cases v<;>rfl
   ·rw[jO hi,cond_false,cond_false,if_neg hi]
  ·rw[jO hd,cond_false];rcases pe hd with⟨h1,h2⟩|⟨h1,h2⟩
   ·rw[h1,cond_true,a1.ku,a1.ku,a1.ku,jO hd,cond_false,h1,cond_true];by_cases hi:i=0
    ·subst hi;rw[gH,cond_true,cond_true,if_neg (p9 hd)]
    ·rw[jO hi,cond_false,cond_false];rcases pe hi with⟨h3,aQ⟩|⟨h3,aQ⟩
     ·rw[h3,cond_true,cond_true,a1.jh l];by_cases he:i=d
      ·subst he;rw[if_pos I,if_pos I]
      ·rw[if_neg he,if_neg U]
     ·rw[h3,cond_false,cond_false,if_neg U]
   ·rw[h1,cond_false,a1.ku,a1.ku,a1.ku,jO hd,cond_false,h1,cond_false];by_cases hi:i=0
    ·subst hi;rw[gH,cond_true,cond_true,if_neg (p9 hd)]
    ·rw[jO hi,cond_false,cond_false];rcases pe hi with⟨h3,aQ⟩|⟨h3,aQ⟩
     ·rw[h3,cond_true,cond_true,if_neg U]
     ·rw[h3,cond_false,cond_false,a1.jh r];by_cases he:i=d
      ·subst he;rw[if_pos I,if_pos I]
      ·rw[if_neg he,if_neg U]
theorem a1.Ll:∀(f d i:Nat) (x:α),d<f->(a1.zx f d x).get i=if i=d then some x else none
 |0,d,i,x,h=>by omega
 |f+1,d,i,x,h=>by
  rw[a1.a7y];by_cases hd:d=0
  ·subst hd;rw[gH,cond_true,a1.ku];by_cases hi:i=0
   ·subst hi;rw[gH,cond_true,if_pos I]
   ·rw[jO hi,cond_false,if_neg hi,a1.get_nil];cases Nat.beq (Nat.mod i 2) 1<;>rfl
  ·rw[jO hd,cond_false];rcases pe hd with⟨h1,h2⟩|⟨h1,h2⟩
   ·rw[h1,cond_true,a1.ku];by_cases hi:i=0
    ·subst hi;rw[gH,cond_true,if_neg (p9 hd)]
    ·rw[jO hi,cond_false];rcases pe hi with⟨h3,aQ⟩|⟨h3,aQ⟩
     ·rw[h3,cond_true,a1.Ll f _ _ x U];by_cases he:i=d
      ·subst he;rw[if_pos I,if_pos I]
      ·rw[if_neg he,if_neg U]
     ·rw[h3,cond_false,if_neg U,a1.get_nil]
   ·rw[h1,cond_false,a1.ku];by_cases hi:i=0
    ·subst hi;rw[gH,cond_true,if_neg (p9 hd)]
    ·rw[jO hi,cond_false];rcases pe hi with⟨h3,aQ⟩|⟨h3,aQ⟩
     ·rw[h3,cond_true,if_neg U,a1.get_nil]
     ·rw[h3,cond_false,a1.Ll f _ _ x U];by_cases he:i=d
      ·subst he;rw[if_pos I,if_pos I]
      ·rw[if_neg he,if_neg U]
theorem a1.Cs:∀(t:a1 α) (d i:Nat) (x:α),(t.ins d x).get i=if i=d then some x else t.get i
 | .nil,d,i,x=>by rw[a1.a7w,a1.Ll _ _ _ _ (lB d),a1.get_nil]
 | .node v l r,d,i,x=>by
  rw[a1.a7x];by_cases hd:d=0
  ·subst hd;rw[gH,cond_true,a1.ku,a1.ku];by_cases hi:i=0
   ·subst hi;rw[gH,cond_true,if_pos I]
   ·rw[jO hi,cond_false,cond_false,if_neg hi]
  ·rw[jO hd,cond_false];rcases pe hd with⟨h1,h2⟩|⟨h1,h2⟩
   ·rw[h1,cond_true,a1.ku,a1.ku];by_cases hi:i=0
    ·subst hi;rw[gH,cond_true,cond_true,if_neg (p9 hd)]
    ·rw[jO hi,cond_false,cond_false];rcases pe hi with⟨h3,aQ⟩|⟨h3,aQ⟩
     ·rw[h3,cond_true,cond_true,a1.Cs l];by_cases he:i=d
      ·subst he;rw[if_pos I,if_pos I]
      ·rw[if_neg he,if_neg U]
     ·rw[h3,cond_false,cond_false,if_neg U]
   ·rw[h1,cond_false,a1.ku,a1.ku];by_cases hi:i=0
    ·subst hi;rw[gH,cond_true,cond_true,if_neg (p9 hd)]
    ·rw[jO hi,cond_false,cond_false];rcases pe hi with⟨h3,aQ⟩|⟨h3,aQ⟩
     ·rw[h3,cond_true,cond_true,if_neg U]
     ·rw[h3,cond_false,cond_false,a1.Cs r];by_cases he:i=d
      ·subst he;rw[if_pos I,if_pos I]
      ·rw[if_neg he,if_neg U]
theorem a1.F8:∀(f n i:Nat) (x:α),i<n->n<=f->(a1.full f x n).get i=some x
 |0,n,i,x,h,hf=>by omega
 |f+1,n,i,x,h,hf=>by
  rw[a1.S_];have hn:n≠0:=by omega
  rw[jO hn,cond_false,a1.ku];have aR:Nat.div n 2=n/2:=rfl;have a6:Nat.div (Nat.sub n 1) 2=(n-1)/2:=rfl;by_cases hi:i=0
  ·subst hi;rw[gH,cond_true]
  ·rw[jO hi,cond_false];rcases pe hi with⟨h3,aQ⟩|⟨h3,aQ⟩
   ·rw[h3,cond_true];exact a1.F8 f _ _ x (by rw[aR];omega) (by rw[aR];omega)
   ·rw[h3,cond_false];exact a1.F8 f _ _ x (by rw[a6];omega) (by rw[a6];omega)
theorem a1.F9:∀(f n i:Nat) (x y:α),(a1.full f x n).get i=some y->y=x/\i<n
 |0,n,i,x,y,h=>by
  have h:(a1.nil:a1 α).get i=some y:=h;rw[a1.get_nil] at h;cases h
 |f+1,n,i,x,y,h=>by
  rw[a1.S_] at h;by_cases hn:n=0
  ·subst hn;rw[gH,cond_true,a1.get_nil] at h;cases h
  ·rw[jO hn,cond_false,a1.ku] at h;have aR:Nat.div n 2=n/2:=rfl;have a6:Nat.div (Nat.sub n 1) 2=(n-1)/2:=rfl;by_cases hi:i=0
   ·subst hi;rw[gH,cond_true] at h;cases h;exact⟨rfl,U⟩
   ·rw[jO hi,cond_false] at h;rcases pe hi with⟨h3,aQ⟩|⟨h3,aQ⟩
    ·rw[h3,cond_true] at h;have:=a1.F9 f _ _ x y h;exact⟨this.1,by rw[aR] at this;omega⟩
    ·rw[h3,cond_false] at h;have:=a1.F9 f _ _ x y h;exact⟨this.1,by rw[a6] at this;omega⟩
end
section
variable {α:Type}
theorem Ta(f i:Nat):xw (f+1) i=cond (Nat.beq i 0) .h (cond (Nat.beq (Nat.mod i 2) 1) (.l (xw f (Nat.div (Nat.sub i 1) 2))) (.r (xw f (Nat.div (Nat.sub i 1) 2)))):=
 (rv _ _ _).trans (congrArg (cond _ _) (rv _ _ _))
theorem a1.F_:∀(f i:Nat) (t:a1 α),i<f->a1.F1 (xw f i) t=t.get i
 |0,i,t,h=>absurd h (Nat.not_lt_zero _)
 |f+1,i,t,h=>by
  rw[Ta];by_cases hi:i=0
  ·subst hi;cases t<;>rfl
  ·rw[jO hi,cond_false];have hlt:Nat.div (Nat.sub i 1) 2<f:=by show(i-1)/2<f;omega
   rcases pe hi with⟨h1,_⟩|⟨h1,_⟩
   ·rw[h1,cond_true];cases t with
    |nil=>rfl
    |node v l r=>rw[a1.ku,jO hi,cond_false,h1,cond_true];exact a1.F_ f _ l hlt
   ·rw[h1,cond_false];cases t with
    |nil=>rfl
    |node v l r=>rw[a1.ku,jO hi,cond_false,h1,cond_false];exact a1.F_ f _ r hlt
theorem a1.Lm(x:α):∀(f i:Nat) (t:a1 α),i<f->a1.SU x (xw f i) t=t.set i x
 |0,i,t,h=>absurd h (Nat.not_lt_zero _)
 |f+1,i,t,h=>by
  rw[Ta];by_cases hi:i=0
  ·subst hi;cases t<;>rfl
  ·rw[jO hi,cond_false];have hlt:Nat.div (Nat.sub i 1) 2<f:=by show(i-1)/2<f;omega
   rcases pe hi with⟨h1,_⟩|⟨h1,_⟩
   ·rw[h1,cond_true];cases t with
    |nil=>rfl
    |node v l r=>rw[a1.Lk,jO hi,cond_false,h1,cond_true];exact congrArg (λl=>a1.node v l r) (a1.Lm x f _ l hlt)
   ·rw[h1,cond_false];cases t with
    |nil=>rfl
    |node v l r=>rw[a1.Lk,jO hi,cond_false,h1,cond_false];exact congrArg (λr=>a1.node v l r) (a1.Lm x f _ r hlt)
end
theorem Ln:zy=evalA:=by
 funext env ao x
 cases x with
 |t i=>exact a1.F_ _ _ _ (lB i)
 |c v=>rfl
 |g g=>rfl
theorem Tb:Fr.om=Fr.put:=by
 funext ad d v
 cases d with
 |none=>rfl
 |some d=>exact congrArg (λs=>Fr.mk s ad.defers ad.fS) (a1.Lm v _ _ _ (lB d))
theorem Tc:F3=wantedA:=by
 funext g ao
 cases g with
 |none=>rfl
 |some p=>
  obtain⟨d,w⟩:=p;show(match a1.F1 (xw (d+1) d) ao with|some (.b x)=>x==w|_=>false)=_;rw[a1.F_ _ _ _ (lB d)];rfl
theorem a7z(env:Env)(aH:jf):SY env aH=step env aH:=by
 funext floor aN c ad J
 cases c with
 |cond c a b=>
  show(match zy env ad.bf c with|some (.b t)=>aH floor aN (cond t a b) ad J|_=>none)=_;rw[Ln];rfl
 |_=>rfl
theorem ae.get_eq(J:ae)(id:Nat):J.get id=if id<J.next then J.xx.get id else none:=by
 unfold ae.get;by_cases h:id<J.next
 ·have hb:Nat.blt id J.next=true:=by simpa [gQ] using h
  rw[hb,cond_true,if_pos h]
 ·have hb:Nat.blt id J.next=false:=by
   cases hb:Nat.blt id J.next
   ·rfl
   ·exact absurd (by simpa [gQ] using hb) h
  rw[hb,cond_false,if_neg h]
theorem ae.bE{J:ae}{id:Nat}{o:AO}(h:J.get id=some o):id<J.next:=by
 rw[ae.get_eq] at h;split at h
 ·assumption
 ·cases h
theorem ae.gw{J:ae}(_hl:True)(o:AO){id:Nat}(h:id<J.next):(J.push o).get id=J.get id:=by
 rw[ae.get_eq,ae.get_eq,if_pos h,if_pos (show id<(J.push o).next from Ca h)];show(J.xx.ins J.next o).get id=_;rw[a1.Cs,if_neg U]
theorem ae.jP{J:ae}(o:AO):(J.push o).get J.next=some o:=by
 rw[ae.get_eq,if_pos (show J.next<(J.push o).next from lB _)];show(J.xx.ins J.next o).get J.next=_;rw[a1.Cs,if_pos I]
theorem ae.Td{J:ae}(hl:True)(o:AO)(id:Nat):(J.push o).get id=if id=J.next then some o else J.get id:=by
 by_cases h:id=J.next
 ·subst h;simp[ae.jP]
 ·rw[if_neg h];by_cases h':id<J.next
  ·exact ae.gw hl o h'
  ·rw[ae.get_eq,ae.get_eq,if_neg (show ¬id<(J.push o).next from λh2=>h (by have:id<J.next+1:=h2;omega)),if_neg h']
theorem ae.jh{J:ae}(_hl:True){id:Nat}(o:AO)(h:id<J.next)(g3:Nat):(J.set id o).get g3=if g3=id then some o else J.get g3:=by
 rw[ae.get_eq,ae.get_eq];show(if g3<J.next then(J.xx.ins id o).get g3 else none)=_;by_cases h':g3<J.next
 ·rw[if_pos h',if_pos h',a1.Cs]
 ·rw[if_neg h',if_neg h',if_neg U]
end
end Go.Lyc
end
noncomputable section
namespace Go.Lyc
set_option maxHeartbeats 0
variable [Tok]
open Go.RowKit
def wr:Array Value->Nat->List Value->Array Value
 |arr,_,[]=>arr
 |arr,o,v::r=>wr (arr.setIfInBounds o v) (o+1) r
theorem xC:∀(bo:List Value) (arr:Array Value) (o:Nat),(wr arr o bo).size=arr.size
 |[],_,_=>rfl
 |v::r,arr,o=>by rw[wr,xC r];simp
theorem Ga:∀(bo:List Value) (arr:Array Value) (o i:Nat),o+bo.length<=arr.size->(wr arr o bo)[i]? =if o<=i/\i<o+bo.length then bo[i-o]? else arr[i]?
 |[],arr,o,i,_=>by rw[wr,if_neg (λh=>by simp at h;omega)]
 |v::r,arr,o,i,h=>by
  have h':o+1+r.length<=(arr.setIfInBounds o v).size:=by simp at h ⊢;omega
  rw[wr,Ga r _ (o+1) i h'];simp only[gp] at h ⊢;by_cases h1:o+1<=i/\i<o+1+r.length
  ·rw[if_pos h1,if_pos U,show i-o=(i-(o+1))+1 by omega,FN]
  ·rw[if_neg h1];by_cases h2:i=o
   ·subst h2;rw[if_pos U];simp[FO];omega
   ·rw[if_neg U,K3 (λe=>h2 e.symm)]
theorem heap_setCell_same{w:World}{b o:Nat}{v:Value}{arr:Array Value}{el:TypeId}{bt:Nat×Nat}(h:w.heap[b]? =some (.cells arr el bt)):
  (w.setCell ⟨b,o,none⟩ v).heap[b]? =some (.cells (arr.setIfInBounds o v) el bt):=by
 simp[World.setCell,Array.getElem?_modify,h]
theorem Lo:∀(bo:List Value) (w:World) (b o:Nat) (arr:Array Value) (el:TypeId) (bt:Nat×Nat),w.heap[b]? =some (.cells arr el bt)→
  (w.setCells b o bo).heap[b]? =some (.cells (wr arr o bo) el bt)
 |[],w,b,o,arr,el,bt,h=>h
 |v::r,w,b,o,arr,el,bt,h=>by
  rw[World.setCells,wr];exact Lo r _ b (o+1) _ el bt (heap_setCell_same h)
theorem heap_setCells_other:∀(bo:List Value) (w:World) (b o k:Nat),k≠b->(w.setCells b o bo).heap[k]? =w.heap[k]?
 |[],w,b,o,k,h=>rfl
 |v::r,w,b,o,k,h=>by
  rw[World.setCells,heap_setCells_other r _ b (o+1) k h];exact Below.heap_setCell w ⟨b,o,none⟩ v k h
theorem Lp:∀(bo:List Value) (w:World) (b o:Nat),(w.setCells b o bo).heap.size=w.heap.size/\(w.setCells b o bo).os=w.os/\(w.setCells b o bo).tape=w.tape/\(w.setCells b o bo).output=w.output
 |[],w,b,o=>⟨rfl,rfl,rfl,rfl⟩
 |v::r,w,b,o=>by
  rw[World.setCells];obtain⟨h1,h2,h3,aQ⟩:=Lp r (w.setCell ⟨b,o,none⟩ v) b (o+1);exact⟨by rw[h1];simp,by rw[h2];rfl,by rw[h3];rfl,by rw[aQ];rfl⟩
theorem zE{w:World}{b:Nat}{o:Obj}(h:w.heap[b]? =some o):b<w.heap.size:=(xt.1 h).1
def bindM(m:Nat->Option Nat)(i b:Nat):Nat->Option Nat:=λid=>if id=i then some b else m id
theorem hD(m:Nat->Option Nat)(i b:Nat):bindM m i b i=some b:=by simp[bindM]
theorem iQ(m:Nat->Option Nat)(i b:Nat){id:Nat}(h:id≠i):bindM m i b id=m id:=by simp[bindM,h]
section
variable {P:Program}{J:ae}{w:World}{m:Nat->Option Nat}{B:Nat}
theorem Rel.a7A(al:Rel P J w m B):m J.next=none:=by
 cases h:m J.next with
 |none=>rfl
 |some b=>have:=(al.fU _ _ h).2;omega
theorem Rel.Te(al:Rel P J w m B){aF:Nat}(h:bp J m aF):aF<w.heap.size:=let⟨_,h1,_⟩:=h;(al.fU _ _ h1).1
theorem Lq(al:Rel P J w m B){o:AO}(ho:o.isDead=false)(id:Nat):live (J.push o) id↔id=J.next\/live J id:=by
 unfold live;rw[ae.Td al.len];by_cases h:id=J.next
 ·subst h;simp[ho]
 ·simp[h]
theorem Tf{id:Nat}(h:live J id):id<J.next:=let⟨_,h1,_⟩:=h;ae.bE h1
theorem Rel.alloc(al:Rel P J w m B)(f:Nat)(aw:World)(o:AO)(bU:Obj)(ho:o.isDead=false)(hh:aw.heap=w.heap.push bU)(l2:aw.os=w.os)(pf:aw.tape=w.tape)(lE:aw.output=w.output)
  (lF:mx P w m (bp J m) B o bU):Rel P (J.push o) aw (bindM m J.next w.heap.size) B/\Ext f J w m (J.push o) aw (bindM m J.next w.heap.size):=by
 have cv:aw.heap.size=w.heap.size+1:=by rw[hh];simp
 have hold:∀b,b<w.heap.size->aw.heap[b]? =w.heap[b]? :=λb hb=>by
  rw[hh,K4];rw[if_neg U]
 have jx:aw.heap[w.heap.size]? =some bU:=by rw[hh];simp
 have dI:Ext f J w m (J.push o) aw (bindM m J.next w.heap.size):=by
  refine⟨?_,?_,K5 _,U,?_,λb hb _=>hold b hb,?_,?_,l2,pf,lE,λid hn _=>ae.gw al.len o hn⟩
  ·intro id aF h;rw[iQ m _ _ (by have:=(al.fU _ _ h).2;omega)];exact h
  ·intro id aF h;by_cases hi:id=J.next
   ·subst hi;rw[hD] at h;cases h;exact .inr ⟨br _,.inl (br _)⟩
   ·rw[iQ m _ _ hi] at h;exact .inl h
  ·intro b n hb;have:b<w.heap.size:=by
    rcases nC b w.heap.size with h|h
    ·exact h
    ·simp[eD,zt h] at hb
   unfold eD at hb ⊢;rw[hold b this];exact hb
  ·intro id _ hn;exact ae.gw al.len o hn
  ·intro id hn hl;rcases(Lq al ho id).1 hl with h|h
   ·omega
   ·exact h
 refine⟨⟨trivial,?_,?_,?_,?_,by have:=al.mz;omega⟩,dI⟩
 ·intro id aF h;by_cases hi:id=J.next
  ·subst hi;rw[hD] at h;cases h;exact⟨U,lB _⟩
  ·rw[iQ m _ _ hi] at h;have:=al.fU _ _ h;exact⟨U,Ca this.2⟩
 ·intro id aF dJ h hg hd;by_cases hi:id=J.next
  ·subst hi;rw[hD] at h;cases h;rw[ae.jP] at hg;cases hg;exact⟨bU,jx,lF.mono dI.mono dI.size dI.bI (dI.sT al)⟩
  ·rw[iQ m _ _ hi] at h;have hlt:=al.fU _ _ h;rw[ae.gw al.len o hlt.2] at hg;obtain⟨hE,h1,h2⟩:=al.obj id aF dJ h hg hd;exact⟨hE,by rw[hold _ hlt.1];exact h1,h2.mono dI.mono dI.size dI.bI (dI.sT al)⟩
 ·intro id g3 aF h h' hl ry;by_cases hi:id=J.next
  ·by_cases dc:g3=J.next
   ·rw[hi,dc]
   ·subst hi;rw[hD] at h;cases h;rw[iQ m _ _ dc] at h';have:=(al.fU _ _ h').1;omega
  ·rw[iQ m _ _ hi] at h;by_cases dc:g3=J.next
   ·subst dc;rw[hD] at h';cases h';have:=(al.fU _ _ h).1;omega
   ·rw[iQ m _ _ dc] at h';exact al.inj id g3 aF h h' (((Lq al ho id).1 hl).resolve_left hi) (((Lq al ho g3).1 ry).resolve_left dc)
 ·intro id aF h;by_cases hi:id=J.next
  ·subst hi;rw[hD] at h;cases h;exact al.mz
  ·rw[iQ m _ _ hi] at h;exact al.base _ _ h
theorem a7B(al:Rel P J w m B){id:Nat}(h:id<J.next)(o:AO)(g3:Nat):live (J.set id o) g3↔if g3=id then o.isDead=false else live J g3:=by
 unfold live;rw[ae.jh al.len o h];by_cases he:g3=id
 ·simp[he]
 ·simp[he]
theorem Rel.dd(al:Rel P J w m B){f id aF:Nat}(hf:f<=id)(hm:m id=some aF)(hl:live J id)(aw:World)(o:AO)(cv:aw.heap.size=w.heap.size)
  (xD:∀b,b≠aF->aw.heap[b]? =w.heap[b]?) (hj:∀n,eD w aF=some n->eD aw aF=some n) (l2:aw.os=w.os) (pf:aw.tape=w.tape) (lE:aw.output=w.output)
  (lF:o.isDead=false->∃bU,aw.heap[aF]? =some bU/\mx P w m (bp J m) B o bU):Rel P (J.set id o) aw m B/\Ext f J w m (J.set id o) aw m:=by
 have hlt:=al.fU _ _ hm;have mB:∀g3,live (J.set id o) g3->live J g3:=λg3 h=>by
  rw[a7B al hlt.2] at h;by_cases he:g3=id
  ·subst he;exact hl
  ·rwa[if_neg he] at h
 have dI:Ext f J w m (J.set id o) aw m:=by
  refine⟨λ_ _ h=>h,λ_ _ h=>.inl h,br _,U,?_,?_,?_,λg3 _ h=>mB g3 h,l2,pf,lE,λg3 _ uu=>by rw[ae.jh al.len o hlt.2,if_neg (λe=>by subst e;rw[hm] at uu;cases uu)]⟩
  ·intro b n hb;by_cases he:b=aF
   ·subst he;exact hj n hb
   ·unfold eD at hb ⊢;rw[xD b he];exact hb
  ·intro b hb cp;refine xD b λhe=>cp ?_;subst he;exact⟨id,hf,hm,hl⟩
  ·intro g3 qj hn;rw[ae.jh al.len o hlt.2,if_neg U]
 refine⟨⟨trivial,λg3 b h=>by have:=al.fU _ _ h;exact⟨U,this.2⟩,?_,λi l3 b h h' a cL=>al.inj i l3 b h h' (mB _ a) (mB _ cL),al.base,by have:=al.mz;omega⟩,dI⟩;intro g3 b dJ h hg hd;by_cases he:g3=id
 ·subst he;rw[hm] at h;cases h;rw[ae.jh al.len o hlt.2,if_pos I] at hg;cases hg;obtain⟨hE,h1,h2⟩:=lF hd;exact⟨hE,h1,h2.mono dI.mono dI.size dI.bI (dI.sT al)⟩
 ·rw[ae.jh al.len o hlt.2,if_neg he] at hg;obtain⟨hE,h1,h2⟩:=al.obj g3 b dJ h hg hd;have a5:b≠aF:=λe=>he (al.inj g3 id aF (e▸h) hm ⟨dJ,hg,hd⟩ hl);exact⟨hE,by rw[xD b a5];exact h1,h2.mono dI.mono dI.size dI.bI (dI.sT al)⟩
theorem Rel.move(al:Rel P J w m B){f id aF:Nat}(hf:f<=id)(hm:m id=some aF)(hl:live J id)(aw:World)(o:AO)(ho:o.isDead=false)(cv:aw.heap.size=w.heap.size)
  (xD:∀b,b≠aF->aw.heap[b]? =w.heap[b]?) (hj:∀n,eD w aF=some n->eD aw aF=some n) (l2:aw.os=w.os) (pf:aw.tape=w.tape) (lE:aw.output=w.output)
  (lF:∃bU,aw.heap[aF]? =some bU/\mx P w m (bp J m) B o bU):
  Rel P ((J.set id .dead).push o) aw (bindM m J.next aF) B/\Ext f J w m ((J.set id .dead).push o) aw (bindM m J.next aF):=by
 have hlt:=al.fU _ _ hm;have hlen:True:=trivial;have hF:∀i,((J.set id .dead).push o).get i=if i=J.next then some o else if i=id then some .dead else J.get i:=λi=>by
  rw[ae.Td hlen o i];show(if i=J.next then some o else _)=_;by_cases h:i=J.next
  ·rw[if_pos h,if_pos h]
  ·rw[if_neg h,if_neg h,ae.jh al.len .dead hlt.2]
 have mB:∀i,live ((J.set id .dead).push o) i↔i=J.next\/(i≠id/\live J i):=λi=>by
  unfold live;rw[hF i];by_cases h:i=J.next
  ·simp[h,ho]
  ·by_cases h':i=id
   ·subst h';simp[h,AO.isDead]
   ·simp[h,h']
 have dI:Ext f J w m ((J.set id .dead).push o) aw (bindM m J.next aF):=by
  refine⟨?_,?_,K5 _,U,?_,?_,?_,?_,l2,pf,lE,λi hn uu=>by rw[hF,if_neg U,if_neg (λe=>by subst e;rw[hm] at uu;cases uu)]⟩
  ·intro i b h;rw[iQ m _ _ (by have:=(al.fU _ _ h).2;omega)];exact h
  ·intro i b h;by_cases hi:i=J.next
   ·subst hi;rw[hD] at h;cases h;exact .inr ⟨br _,.inr ⟨id,hf,hm,hl⟩⟩
   ·rw[iQ m _ _ hi] at h;exact .inl h
  ·intro b n hb;by_cases he:b=aF
   ·subst he;exact hj n hb
   ·unfold eD at hb ⊢;rw[xD b he];exact hb
  ·intro b hb cp;refine xD b λhe=>cp ?_;subst he;exact⟨id,hf,hm,hl⟩
  ·intro i qj hn;rw[hF,if_neg U,if_neg U]
  ·intro i hn h;rcases(mB i).1 h with h|h
   ·omega
   ·exact h.2
 refine⟨⟨trivial,?_,?_,?_,?_,by have:=al.mz;omega⟩,dI⟩
 ·intro i b h;by_cases hi:i=J.next
  ·subst hi;rw[hD] at h;cases h;exact⟨U,lB _⟩
  ·rw[iQ m _ _ hi] at h;have:=al.fU _ _ h;exact⟨U,Ca this.2⟩
 ·intro i b dJ h hg hd;rw[hF] at hg;by_cases hi:i=J.next
  ·subst hi;rw[hD] at h;cases h;rw[if_pos I] at hg;cases hg;obtain⟨hE,h1,h2⟩:=lF;exact⟨hE,h1,h2.mono dI.mono dI.size dI.bI (dI.sT al)⟩
  ·rw[iQ m _ _ hi] at h;rw[if_neg hi] at hg;by_cases he:i=id
   ·rw[if_pos he] at hg;cases hg;cases hd
   ·rw[if_neg he] at hg;obtain⟨hE,h1,h2⟩:=al.obj i b dJ h hg hd;have a5:b≠aF:=λe=>he (al.inj i id aF (e▸h) hm ⟨dJ,hg,hd⟩ hl);exact⟨hE,by rw[xD b a5];exact h1,h2.mono dI.mono dI.size dI.bI (dI.sT al)⟩
 ·intro i l3 b h h' a cL;by_cases hi:i=J.next
  ·by_cases dc:l3=J.next
   ·rw[hi,dc]
   ·subst hi;rw[hD] at h;cases h;rw[iQ m _ _ dc] at h';have h3:=((mB l3).1 cL).resolve_left dc;exact absurd (al.inj l3 id aF h' hm h3.2 hl) h3.1
  ·rw[iQ m _ _ hi] at h;have h2:=((mB i).1 a).resolve_left hi;by_cases dc:l3=J.next
   ·subst dc;rw[hD] at h';cases h';exact absurd (al.inj i id aF h hm h2.2 hl) h2.1
   ·rw[iQ m _ _ dc] at h';exact al.inj i l3 b h h' h2.2 (((mB l3).1 cL).resolve_left dc).2
 ·intro i b h;by_cases hi:i=J.next
  ·subst hi;rw[hD] at h;cases h;exact al.base _ _ hm
  ·rw[iQ m _ _ hi] at h;exact al.base _ _ h
end
theorem Tg(s:ByteArray):strOf (xz s)=s:=by
 unfold strOf xz;have:(s.data.toList.map (·.toNat)).map Nat.toUInt8=s.data.toList:=by
  rw[mm];conv=>rhs;rw[<-List.map_id s.data.toList]
  apply uc;intro c _;simp
 rw[this]
theorem Th(s:ByteArray):∀c∈xz s,c<256:=by
 intro c ab;simp only[xz,dx] at ab;obtain⟨x,_,rfl⟩:=ab;exact x.toNat_lt
theorem xE{α β:Type}{f:α->Option β}:∀ {l:List α} {ba:List β},mapOL f l=some ba->ba.length=l.length/\∀i (h:i<l.length) (h':i<ba.length),f (l[i])=some (ba[i])
 |[],ba,h=>by simp[mapOL] at h;subst h;simp
 |x::xs,ba,h=>by
  rw[mapOL] at h;split at h
  ·rename_i y fa hx dH;cases h;obtain⟨h1,h2⟩:=xE dH;refine⟨by simp[h1],λi hi dc=>?_⟩;cases i with
   |zero=>simpa using hx
   |succ i=>simpa using h2 i (by simpa using hi) (by simpa using dc)
  ·cases h
section
variable {P:Program}{w:World}{m:Nat->Option Nat}{O:Nat->Prop}{B:Nat}
theorem Lr{v:Value}{x:AV}(h:ofLeaf v=some x):conf none x=true:=by
 unfold Lyc.ofLeaf at h;split at h<;>cases h<;>rfl
theorem R.ofLeaf{v:Value}{x:AV}(h:ofLeaf v=some x):R w m O B x v:=by
 unfold Lyc.ofLeaf at h;split at h<;>cases h
 ·exact .b _
 ·exact .i _ _
 ·rename_i s;have:=R.s (w:=w) (m:=m) (O:=O) (B:=B) (xz s) (Th s);rwa[Tg] at this
 ·exact .qi
 ·exact .af
 ·exact .ou
 ·exact .d_
 ·exact .fJ
theorem R.ofValue{v:Value}{x:AV}(h:ofValue v=some x):R w m O B x v:=by
 unfold Lyc.ofValue at h;split at h
 ·split at h
  ·rename_i l eX hx;cases h;obtain⟨h1,h2⟩:=xE hx;refine .ah (by rw[<-sF];exact h1.symm) (λi hi dc=>?_) (λx hx=>?_)
   ·have:=h2 i (by rw[sF];exact dc) hi;exact R.ofLeaf (by simpa using this)
   ·obtain⟨i,hi,rfl⟩:=jw hx;exact Lr (h2 i U hi)
  ·cases h
 ·split at h
  ·rename_i hx;cases h;exact .it (R.ofLeaf hx)
  ·cases h
 ·exact R.ofLeaf h
theorem bK.get{l:List AV}{bo:List Value}(h:bK w m O B l bo){i:Nat}{v:AV}(av:l[i]? =some v):∃u,bo[i]? =some u/\R w m O B v u:=by
 obtain⟨hi,rfl⟩:=fC.1 av;have dc:i<bo.length:=by rw[h.1];exact hi
 exact⟨bo[i],cK dc,h.2 i hi dc⟩
theorem bK.nil:bK w m O B [] []:=⟨rfl,λi h=>by simp at h⟩
theorem bK.cons{x:AV}{u:Value}{l:List AV}{bo:List Value}(h:R w m O B x u)(hl:bK w m O B l bo):bK w m O B (x::l) (u::bo):=
 ⟨by simp[hl.1],λi h1 h2=>by
  cases i with
  |zero=>exact h
  |succ i=>exact hl.2 i (by simpa using h1) (by simpa using h2)⟩
theorem bK.append{l ct:List AV}{bo sU:List Value}(h:bK w m O B l bo)(h':bK w m O B ct sU):bK w m O B (l++ct) (bo++sU):=by
 refine⟨by simp[h.1,h'.1],λi h1 h2=>?_⟩;by_cases hi:i<l.length
 ·rw[g9 hi,g9 (by rw[h.1];exact hi)];exact h.2 i hi _
 ·rw[ri U,ri (by rw[h.1];omega)];have:i-bo.length=i-l.length:=by rw[h.1]
  simp only[this];exact h'.2 _ _ (by have:=h'.1;have:=h.1;simp at h1 h2;omega)
theorem bK.drop{l:List AV}{bo:List Value}(h:bK w m O B l bo)(k:Nat):bK w m O B (l.drop k) (bo.drop k):=
 ⟨by simp[h.1],λi h1 h2=>by rw[K6,K6];exact h.2 _ (by simp at h1;omega) (by simp at h2;omega)⟩
theorem bK.take{l:List AV}{bo:List Value}(h:bK w m O B l bo)(k:Nat):bK w m O B (l.take k) (bo.take k):=
 ⟨by simp[h.1],λi h1 h2=>by rw[ud,ud];exact h.2 _ (by simp at h1;omega) (by simp at h2;omega)⟩
theorem R.m8{l:List AV}{bo:List Value}(h:bK w m O B l bo)(hf:∀x∈l,conf none x=true):R w m O B (.ah l) (.agg bo.toArray):=
 .ah (by simp[h.1]) (λi h1 h2=>by simpa using h.2 i h1 (by simpa using h2)) hf
theorem R.qk{l:List AV}{u:Value}(h:R w m O B (.ah l) u):∃bo:Array Value,u= .agg bo/\bK w m O B l bo.toList/\∀x∈l,conf none x=true:=by
 cases h with
 |ah an al hf=>exact⟨_,rfl,⟨by simpa using an,λi h1 h2=>by simpa using al i h1 (by simpa using h2)⟩,hf⟩
theorem R.Ls{l:List AV}{u:Value}(h:R w m O B (.a9 l) u):∃bo:Array Value,u= .tuple bo/\bK w m O B l bo.toList:=by
 cases h with
 |a9 an al=>exact⟨_,rfl,by simpa using an,λi h1 h2=>by simpa using al i h1 (by simpa using h2)⟩
theorem R.uv{l:List AV}{bo:List Value}(h:bK w m O B l bo):R w m O B (.a9 l) (.tuple bo.toArray):=
 .a9 (by simp[h.1]) (λi h1 h2=>by simpa using h.2 i h1 (by simpa using h2))
theorem R.undef:R w m O B ea undef:=.a9 I (λi h=>by simp at h)
theorem R.cells{v:AV}{u:Value}(h:R w m O B v u):bK w m O B v.cells u.cells.toList:=by
 have h0:=h;cases h with
 |ah an al hf=>obtain⟨bo,hu,hl,_⟩:=R.qk h0;cases hu;exact hl
 |y h=>rcases h.alt with⟨_,_,rfl⟩|⟨_,rfl⟩<;>exact bK.cons h0 bK.nil
 |gi hu h=>subst hu;exact bK.cons h0 bK.nil
 |_=>exact bK.cons h0 bK.nil
theorem R.leafs{v:AV}{u:Value}{aa:Option Nat}(h:R w m O B v u)(ab:conf aa v=true):∀x∈v.cells,conf none x=true:=by
 cases h with
 |ah an al hf=>exact hf
 |a9 an al=>cases aa<;>simp[conf] at ab
 |_=>intro x hx;simp only[AV.cells,cu] at hx;subst hx;rfl
theorem R.Ti{v:AV}{u:Value}(h:R w m O B v u)(av:conf none v=true):u.oneCell'=true:=by
 cases h with
 |y h=>rcases h.alt with⟨_,_,rfl⟩|⟨_,rfl⟩<;>rfl
 |gi hu h=>subst hu;rfl
 |_=>first|rfl|(simp[conf] at av)
theorem k4{t:TypeId}{aa:Option Nat}(h:shapeOf P t=some aa)(w:World):
  (isAgg t).run P w= .ok aa.isSome w/\(sizeOf t).run P w= .ok (shN aa) w/\∃i,P.info? t=some i/\i.size=shN aa:=by
 unfold shapeOf at h;split at h<;>try (cases h;done)
 ·rename_i a8 i hu hi;cases h;exact⟨by simp[isAgg,run_underlying hu],by simp[sizeOf,typeInfo,hi,shN],i,hi,rfl⟩
 ·rename_i n e i hu hi;cases h;exact⟨by simp[isAgg,run_underlying hu],by simp[sizeOf,typeInfo,hi,shN],i,hi,rfl⟩
 ·rename_i d i h1 h2 hu hi;split at h
  ·rename_i an;cases h;refine⟨?_,by simp[sizeOf,typeInfo,hi,shN,an],i,hi,by simp[shN,an]⟩;simp only[isAgg,eV,run_underlying hu,e3];cases d<;>first|rfl|(exfalso;first|exact h1 _ rfl|exact h2 _ _ I)
  ·cases h
theorem k5(b o k:Nat):(⟨b,o,none⟩:Addr).add k=⟨b,o+k,none⟩:=by
 unfold Addr.add;split
 ·rename_i h;subst h;rfl
 ·rfl
theorem Gb{c:List AV}{v:AV}(h:dU none c=some v):∃r,c=v::r:=by
 cases c with
 |nil=>simp[dU] at h
 |cons x r=>simp[dU] at h;subst h;exact⟨r,rfl⟩
theorem Gc{n:Nat}{c:List AV}{v:AV}(h:dU (some n) c=some v):v= .ah (c.take n)/\n<=c.length:=by
 simp only[dU] at h;split at h
 ·rename_i hl;cases h;refine⟨rfl,?_⟩;rw[gI] at hl;omega
 ·cases h
theorem Tj{t:TypeId}{aa:Option Nat}(h6:shapeOf P t=some aa){b off:Nat}{bo:List Value}{c:List AV}(ab:bK w m O B c bo)
  (hw:∀j,j<bo.length->w.cell? ⟨b,off+j,none⟩=bo[j]?) {v:AV} (av:dU aa c=some v) (hf:∀x∈c,conf none x=true):
  ∃u,(loadVar t ⟨b,off,none⟩).run P w= .ok u w/\R w m O B v u:=by
 obtain⟨h1,h2,_⟩:=k4 h6 w;cases aa with
 |none=>
  obtain⟨r,rfl⟩:=Gb av;obtain⟨u,hu,al⟩:=ab.get (i:=0) (v:=v) I;have:=hw 0 (by rw[ab.1];simp);rw[sG,hu] at this;exact⟨u,by simp[loadVar,h1,this],al⟩
 |some n=>
  obtain⟨rfl,hn⟩:=Gc av;have hlen:(bo.take n).length=n:=by rw[gI,ab.1];omega
  have hl:=run_loadCells_list (P:=P) w ⟨b,off,none⟩ (bo.take n) (λj x hx=>by
   rw[k5];obtain⟨aC,eY⟩:=fC.1 hx;rw[hw j (by rw[gI] at aC;omega)];rw[ud] at eY;rw[<-eY];exact cK _)
  rw[hlen] at hl;refine⟨.agg (bo.take n).toArray,by simp[loadVar,h1,h2,shN,hl],R.m8 (ab.take n) (λx hx=>hf x (pa hx))⟩
end
section
variable {P:Program}{J:ae}{w:World}{m:Nat->Option Nat}{B:Nat}
theorem Rel.cells(al:Rel P J w m B){id aF:Nat}{c:List AV}(hm:m id=some aF)(hg:J.get id=some (.cells c)):
  ∃arr el bt,w.heap[aF]? =some (.cells arr el bt)/\bK w m (bp J m) B c (arr.toList.take c.length)/\c.length<=arr.size/\(∀i,i<arr.size->(decide (bt.1<=i)&&decide (i<bt.2))=false)/\∀x∈c,conf none x=true:=by
 obtain⟨bU,h1,h2⟩:=al.obj id aF _ hm hg I;cases h2 with
 | @cells _ arr el bt hl iA bb hf=>
  refine⟨arr,el,bt,h1,⟨by simp;omega,λi h3 aQ=>?_⟩,hl,bb,hf⟩;simpa using iA i h3 U
theorem zF{b:Nat}{arr:Array Value}{el:TypeId}{bt:Nat×Nat}(h:w.heap[b]? =some (.cells arr el bt))(i:Nat):w.cell? ⟨b,i,none⟩=arr[i]? :=by
 simp[World.cell?,h]
theorem Lt{b:Nat}{arr:Array Value}{el:TypeId}{bt:Nat×Nat}(h:w.heap[b]? =some (.cells arr el bt))(i:Nat):w.frozen? ⟨b,i,none⟩=(decide (bt.1<=i)&&decide (i<bt.2)):=by
 simp[World.frozen?,h]
theorem Tk(al:Rel P J w m B){t:TypeId}{aa:Option Nat}(h6:shapeOf P t=some aa){id off aF:Nat}{c:List AV}{v:AV}(hm:m id=some aF)(hg:J.get id=some (.cells c))(av:dU aa (c.drop off)=some v):
  ∃u,(loadVar t ⟨aF,off,none⟩).run P w= .ok u w/\R w m (bp J m) B v u:=by
 obtain⟨arr,el,bt,h1,h2,h3,_,hf⟩:=al.cells hm hg;refine Tj h6 (h2.drop off) (λj aC=>?_) av (λx hx=>hf x (og hx));rw[zF h1];simp only[List.length_drop,gI,sF] at aC;rw[sH,p_ U];simp
theorem a7C{O:Nat->Prop}{t:TypeId}{aa:Option Nat}(h6:shapeOf P t=some aa){old:Bool}{v:AV}{u:Value}(h:R w m O B (.dG old v) u)(av:conf aa v=true):
  ∃a cj,u= .pointer (some a)/\(loadVar t a).run P w= .ok cj w/\R w m O B v cj:=by
 cases h with
 | @dG _ _ _ _ _ aF off ba cp hb b3 ab iA hf=>
  have hl:bK w m O B v.cells ((List.range v.cells.length).map ba):=⟨aG,λi h1 h2=>by simpa using (iA i h1).up⟩
  have ht:dU aa v.cells=some v:=by
   cases aa with
   |none=>cases v<;>first|rfl|(simp[conf] at av)
   |some n=>
    cases v<;>simp[conf] at av;rename_i l;subst av;simp[dU,AV.cells]
  obtain⟨cj,h1,h2⟩:=Tj (t:=t) h6 (b:=aF) (off:=off) hl (λj aC=>by
   simp only[b0,lZ] at aC;rw[ab j aC];simp[aC]) ht hf
  exact⟨_,cj,rfl,h1,h2⟩
theorem Ct{c bX:List AV}{off:Nat}{v:List AV}(h:storeCells c off v=some bX):off+v.length<=c.length/\bX=c.take off++(v++c.drop (off+v.length)):=by
 unfold Lyc.storeCells at h;split at h
 ·rename_i hb;cases h;exact⟨gB hb,rfl⟩
 ·cases h
theorem Lu(al:Rel P J w m B){f id off aF:Nat}{c bX:List AV}{bo:List AV}{us:List Value}(hf:f<=id)(hm:m id=some aF)(hg:J.get id=some (.cells c))
  (an:Lyc.storeCells c off bo=some bX) (nG:bK w m (bp J m) B bo us) (kv:∀x∈bo,conf none x=true):
  ∃aw,(Go.storeCells ⟨aF,off,none⟩ us).run P w= .ok () aw/\Rel P (J.set id (.cells bX)) aw m B/\Ext f J w m (J.set id (.cells bX)) aw m:=by
 obtain⟨hle,rfl⟩:=Ct an;obtain⟨arr,el,bt,hh,ab,uw,bb,kK⟩:=al.cells hm hg;have hlen:us.length=bo.length:=nG.1;have h1:∀u∈us,u.oneCell'=true:=λu hu=>by
  obtain⟨i,hi,rfl⟩:=jw hu;exact(nG.2 i U hi).Ti (kv _ (bJ _))
 have cb:=run_storeCells_cells (P:=P) aF off us 0 w
  (λj aC=>by rw[zF hh,sI U];rfl)
  (λj aC=>by rw[Lt hh];exact bb _ U) h1
 obtain⟨iq,l4,ow,ux⟩:=Lp us w aF (off+0);have xF:=Lo us w aF (off+0) arr el bt hh;refine⟨_,cb,al.dd hf hm ⟨_,hg,rfl⟩ _ (.cells _) iq (λb hb=>heap_setCells_other us w aF _ b hb) ?_ l4 ow ux (λ_=>⟨_,xF,?_⟩)⟩
 ·intro n hn;unfold eD at hn ⊢;rw[hh] at hn;rw[xF];simpa [xC] using hn
 ·have hF:∀i,(wr arr (off+0) us)[i]? =if off<=i/\i<off+us.length then us[i-off]? else arr[i]? :=λi=>by
   have:=Ga us arr (off+0) i U;simpa using this
  have kL:(c.take off++(bo++c.drop (off+bo.length))).length=c.length:=by simp;omega
  refine .cells (by rw[xC,kL];exact uw) (λi h h'=>?_) (by rw[xC];exact bb) (λx hx=>by
    rcases eP.1 hx with hx|hx
    ·exact kK x (pa hx)
    ·rcases eP.1 hx with hx|hx
     ·exact kv x hx
     ·exact kK x (og hx))
  rw[kL] at h;have hi:=hF i;rw[sI h'] at hi;have hL:(c.take off++(bo++c.drop (off+bo.length)))[i]? =if off<=i/\i<off+us.length then bo[i-off]? else c[i]? :=by
   rw[Cb];simp only[gI];by_cases bF:i<off
   ·rw[if_pos U,if_neg U,p_ bF]
   ·rw[if_neg U,Cb];by_cases cw:i-min off c.length<bo.length
    ·rw[if_pos cw,if_pos U,show min off c.length=off by omega]
    ·rw[if_neg cw,if_neg U,sH]
     congr 1;omega
  have vJ:(c.take off++(bo++c.drop (off+bo.length)))[i]? =some ((c.take off++(bo++c.drop (off+bo.length)))[i]'(by rw[kL];exact h)):=cK _;rw[hL] at vJ;by_cases eL:off<=i/\i<off+us.length
  ·rw[if_pos eL] at vJ hi;obtain⟨u,hu,jQ⟩:=nG.get vJ;rw[hu] at hi;cases hi;exact jQ
  ·rw[if_neg eL] at vJ hi;obtain⟨u,hu,jQ⟩:=ab.get vJ;rw[p_ h] at hu;have:arr[i]? =some u:=by simpa using hu
   rw[this] at hi;cases hi;exact jQ
end
def fD(P:Program)(B f:Nat)(J:ae)(w:World)(m:Nat->Option Nat)(v:AV)(ag:ae)(r:Result Next):Prop:=
 ∃u aw aW,(r= .ok (.value u) aw\/(r= .ok .skip aw/\u=undef))/\R aw aW (bp ag aW) B v u/\Rel P ag aw aW B/\Ext f J w m ag aw aW
section
variable {P:Program}{J:ae}{w:World}{m:Nat->Option Nat}{B:Nat}{f:Nat}
theorem fD.pure{v:AV}{u:Value}{r:Result Next}(al:Rel P J w m B)(h:r= .ok (.value u) w)(av:R w m (bp J m) B v u):fD P B f J w m v J r:=
 ⟨u,w,m,.inl h,av,al,Ext.refl _ _ _ _⟩
def Globs(env:Env)(w:World)(B:Nat):Prop:=
 ∀g v,env.mr g=some v->∀eE,R w (λ_=>none) (λb=>B<=b) eE (.dG true v) (.pointer (some ⟨g,0,none⟩))
theorem Globs.get{env:Env}{O:Nat->Prop}(h:Globs env w B)(cp:∀b,O b->B<=b){g:Nat}{v:AV}(hg:env.mr g=some v):R w m O B (.dG true v) (.pointer (some ⟨g,0,none⟩)):=
 (h g v hg B).mono (λ_ _ h=>by cases h) (br _) (λ_ _ h=>h) (λb _ hb=>⟨rfl,λho=>hb (cp b ho)⟩)
theorem Lv{env:Env}{O:Nat->Prop}(cp:∀b,O b->B<=b)(de:Globs env w B){ao:a1 AV}{a:Act}(an:iP w m O B ao a.tmps.toList){x:Operand}{bP:aI}(hx:opdOf x=some bP){v:AV}(av:evalA env ao bP=some v):
  R w m O B v (a.eval x):=by
 cases x with
 |tmp t=>
  cases hx;obtain⟨u,hu,al⟩:=an.1 t v av;have:a.eval (.tmp t)=u:=by
   simp only[Act.eval];rw[mn] at hu;simp[hu]
  rw[this];exact al
 |const c=>
  simp only[opdOf] at hx;split at hx<;>cases hx;rename_i bM ab;simp only[evalA,cJ] at av;subst av;exact R.ofValue ab
 |func g=>
  cases hx;simp only[evalA,cJ] at av;subst av;exact .cQ I (λi h=>by simp at h) I (λi h=>by simp at h)
 |_=>
  cases hx;simp only[evalA] at av;split at av<;>cases av;rename_i bM hg;exact de.get cp hg
theorem Cu{env:Env}{O:Nat->Prop}(cp:∀b,O b->B<=b)(de:Globs env w B){ao:a1 AV}{a:Act}(an:iP w m O B ao a.tmps.toList){xs:List Operand}{bP:List aI}(hx:xA xs=some bP){bo:List AV}(av:mapO (evalA env ao) bP=some bo):
  bK w m O B bo (xs.map a.eval):=by
 obtain⟨h1,h2⟩:=xE hx;obtain⟨h3,aQ⟩:=ov av;refine⟨by simp[h1,h3],λi hi dc=>?_⟩;simp only[e_];have xG:i<bP.length:=by omega
 have a7D:i<xs.length:=by omega
 exact Lv cp de an (h2 i a7D xG) (aQ i xG hi)
theorem a7E(al:Rel P J w m B){t:TypeId}{aa:Option Nat}(h6:shapeOf P t=some aa){xH v:AV}{u:Value}(au:R w m (bp J m) B xH u)
  (h:rp J aa xH=some v):∃cj,(Instr.loadAt t u).run P w= .ok cj w/\R w m (bp J m) B v cj:=by
 unfold rp at h;cases au with
 | @p _ _ _ id aF off hm=>
  simp only at h;cases hg:J.get id with
  |none=>simp[hg] at h
  |some o=>
   cases o<;>simp only[hg] at h<;>try (cases h;done)
   obtain⟨cj,h1,h2⟩:=Tk al h6 hm hg h;exact⟨cj,by simp[Instr.loadAt,Instr.sureAddr,h1],h2⟩
 |dG ba cp hb b3 ab iA hf=>
  simp only at h;split at h
  ·rename_i av;cases h;obtain⟨a,cj,ha,h1,h2⟩:=a7C (O:=bp J m) h6 (.dG ba cp hb b3 ab iA hf) av;cases ha;exact⟨cj,by simp[Instr.loadAt,Instr.sureAddr,h1],h2⟩
  ·cases h
 |_=>simp at h
theorem a7F{aa:Option Nat}{v:AV}{u:Value}{O:Nat->Prop}(av:R w m O B v u)(ab:conf aa v=true):u.cells.size=shN aa/\v.cells.length=shN aa:=by
 have h:=av.cells.1;cases aa with
 |none=>cases v<;>simp[conf,AV.cells,shN] at ab h ⊢ <;>exact h
 |some n=>cases v<;>simp[conf,AV.cells,shN] at ab h ⊢;omega
theorem a7G(al:Rel P J w m B){t:TypeId}{aa:Option Nat}(h6:shapeOf P t=some aa){id off aF:Nat}{c bX:List AV}{x:AV}{u:Value}(hf:f<=id)(hm:m id=some aF)(hg:J.get id=some (.cells c))(ab:conf aa x=true)
  (an:Lyc.storeCells c off x.cells=some bX) (hx:R w m (bp J m) B x u):
  ∃aw,(Instr.storeAt t (.pointer (some ⟨aF,off,none⟩)) u).run P w= .ok () aw/\Rel P (J.set id (.cells bX)) aw m B/\Ext f J w m (J.set id (.cells bX)) aw m:=by
 obtain⟨aw,h2,h3,aQ⟩:=Lu al hf hm hg an hx.cells (hx.leafs ab);obtain⟨_,cv,_⟩:=k4 h6 w;refine⟨aw,?_,h3,aQ⟩;simp only[Instr.storeAt,Instr.sureAddr,eV,ik,e3,storeVar,cv,(a7F hx ab).1,ne_eq,not_true_eq_false,if_false];exact h2
theorem Gd(al:Rel P J w m B)(f:Nat){el:TypeId}{c:List AV}{cs:Array Value}(ab:bK w m (bp J m) B c cs.toList)(hf:∀x∈c,conf none x=true):
  ∃aw aW,(newRow el cs).run P w= .ok ⟨w.heap.size,0,none⟩ aw/\aW J.next=some w.heap.size/\aw.heap[w.heap.size]? =some (.cells cs el (0,0))/\Rel P (J.push (.cells c)) aw aW B/\Ext f J w m (J.push (.cells c)) aw aW:=by
 obtain⟨h1,h2⟩:=al.alloc f {w with heap:=w.heap.push (.cells cs el)} (.cells c) (.cells cs el) I I I I I
  (.cells (by have:=ab.1;simp at this;omega) (λi h h'=>by have:=ab.2 i h (by simpa using h');simpa using this) (λi _=>by simp) hf)
 exact⟨_,_,by simp[newRow],hD _ _ _,aG,h1,h2⟩
theorem a7H(al:Rel P J w m B){el:TypeId}{x:AV}{u:Value}(hx:R w m (bp J m) B x u)(hf:∀y∈x.cells,conf none y=true):
  ∃cj aw aW,(Instr.box el u).run P w= .ok cj aw/\R aw aW (bp (J.push (.cells x.cells)) aW) B (jN J.next 0) cj/\Rel P (J.push (.cells x.cells)) aw aW B/\Ext f J w m (J.push (.cells x.cells)) aw aW:=by
 obtain⟨aw,aW,h1,h2,_,h3,aQ⟩:=Gd al f (el:=el) hx.cells hf;exact⟨_,aw,aW,by simp[Instr.box,newVar,h1],.p h2,h3,aQ⟩
theorem a7I{v:Value}{x:AV}(h:ofValue v=some x):∀y∈x.cells,conf none y=true:=by
 unfold Lyc.ofValue at h;split at h
 ·split at h
  ·rename_i l eX hx;cases h;intro y hy;obtain⟨i,hi,rfl⟩:=jw hy;exact Lr ((xE hx).2 i (by have:=(xE hx).1;simp only[AV.cells] at hi;omega) hi)
  ·cases h
 ·split at h
  ·cases h;intro y hy;simp only[AV.cells,cu] at hy;subst hy;rfl
  ·cases h
 ·have ab:=Lr h;cases x<;>first|(intro y hy;simp only[AV.cells,cu] at hy;subst hy;exact ab)|(simp[conf] at ab)
theorem rz{t:TypeId}{z:AV}(h:zeroOf P t=some z)(w:World):∃u,(zeroValue t).run P w= .ok u w/\(∀w m O B,R w m O B z u)/\∀y∈z.cells,conf none y=true:=by
 unfold zeroOf at h;split at h<;>try (cases h;done)
 rename_i i hi;split at h<;>try (cases h;done)
 rename_i v av;exact⟨v,by simp[zeroValue,typeInfo,hi,av],λw m O B=>R.ofValue h,a7I h⟩
theorem a7J(al:Rel P J w m B){t:TypeId}{z:AV}(bb:zeroOf P t=some z):
  ∃cj aw aW,(Instr.alloc t true (.tuple #[])).run P w= .ok cj aw/\R aw aW (bp (J.push (.cells z.cells)) aW) B (jN J.next 0) cj/\Rel P (J.push (.cells z.cells)) aw aW B/\Ext f J w m (J.push (.cells z.cells)) aw aW:=by
 obtain⟨u,h1,h2,hf⟩:=rz bb w;obtain⟨aw,aW,h3,aQ,_,bF,cw⟩:=Gd al f (el:=t) (h2 w m (bp J m) B).cells hf;exact⟨_,aw,aW,by simp[Instr.alloc,h1,newVar,h3],.p aQ,bF,cw⟩
theorem Tl(k:IntKind)(n:Int):wrapN k n=k.wrap n:=by
 unfold wrapN;split
 ·rename_i x;cases h:Nat.blt x 9223372036854775808 with
  |false=>rfl
  |true=>
   have hx:x<9223372036854775808:=by simpa [gQ] using h
   show Int.ofNat x=IntKind.i64.wrap (Int.ofNat x);have:(Int.ofNat x:Int)=(x:Int):=rfl;rw[this];have e:(x:Int)%2^64=x:=K7 U U;simp only[IntKind.wrap,IntKind.bits,IntKind.signed,e];rw[if_neg (by simp;omega)]
 ·rfl
end
section
variable {P:Program}{w:World}{m:Nat->Option Nat}{O:Nat->Prop}{B:Nat}
theorem Cv{v:AV}{n:Nat}(h:natOf v=some n):∃k,v= .i k (Int.ofNat n):=by
 unfold natOf at h;split at h<;>cases h;exact⟨_,rfl⟩
theorem Tn{a b:Nat}(ha:a<256)(hb:b<256)(h:a.toUInt8=b.toUInt8):a=b:=by
 have:=congrArg UInt8.toNat h;simp at this;omega
theorem To{a b:Nat}(ha:a<256)(hb:b<256):a.toUInt8<b.toUInt8↔a<b:=by
 rw[SH];simp;omega
theorem Tp(l:List Nat):(strOf l).data.toList=l.map Nat.toUInt8:=by simp[strOf]
theorem zG(l:List Nat):(strOf l).toList=l.map Nat.toUInt8:=by
 rw[Go.ByteArray.toList_eq,Tp]
theorem vK(l:List Nat):(strOf l).size=l.length:=by
 show(strOf l).data.size=_;simp[strOf]
theorem ox:∀(x y:List Nat),eqL x y=true↔x=y
 |[],[]=>by simp[eqL]
 |[],_::_=>by simp[eqL]
 |_::_,[]=>by simp[eqL]
 |a::x,b::y=>by
  show(cond (Nat.beq a b) (eqL x y) false)=true↔_;cases h:Nat.beq a b with
  |false=>
   simp only[cond_false,rj,false_iff,ue,not_and];intro e;subst e;simp[gH] at h
  |true=>
   have:a=b:=fX h;subst this;simp[ox x y]
theorem Lw:∀(x y:List Nat),(∀c∈x,c<256)->(∀c∈y,c<256)->x.map Nat.toUInt8=y.map Nat.toUInt8->x=y
 |[],[],_,_,_=>rfl
 |[],_::_,_,_,h=>by simp at h
 |_::_,[],_,_,h=>by simp at h
 |a::x,b::y,hx,hy,h=>by
  simp only[pb,ue] at h;rw[Tn (hx a aG) (hy b aG) h.1,Lw x y (λc ab=>hx c (by simp[ab])) (λc ab=>hy c (by simp[ab])) h.2]
theorem a7K{x y:List Nat}(hx:∀c∈x,c<256)(hy:∀c∈y,c<256):((strOf x).toList==(strOf y).toList)=eqL x y:=by
 rw[sJ,ox,beq_iff_eq,zG,zG];exact⟨Lw x y hx hy,λh=>by rw[h]⟩
theorem Tq:∀(x y:List Nat),(∀c∈x,c<256)->(∀c∈y,c<256)->Op.bytesLess (x.map Nat.toUInt8) (y.map Nat.toUInt8)=hZ x y
 |[],[],_,_=>rfl
 |[],_::_,_,_=>rfl
 |_::_,[],_,_=>rfl
 |a::x,b::y,hx,hy=>by
  have ha:=hx a aG;have hb:=hy b aG;have aH:=Tq x y (λc ab=>hx c (by simp[ab])) (λc ab=>hy c (by simp[ab]));show(decide (a.toUInt8<b.toUInt8)||(a.toUInt8==b.toUInt8&&Op.bytesLess (x.map Nat.toUInt8) (y.map Nat.toUInt8)))=cond (Nat.blt a b) true (cond (Nat.beq a b) (hZ x y) false);rw[aH];by_cases h:a<b
  ·have h1:Nat.blt a b=true:=by simpa [gQ] using h
   have h2:=(To ha hb).2 h;simp[h1,h2]
  ·have h1:Nat.blt a b=false:=by
    cases h3:Nat.blt a b
    ·rfl
    ·exact absurd (by simpa [gQ] using h3) h
   have h2:¬a.toUInt8<b.toUInt8:=λaQ=>h ((To ha hb).1 aQ);by_cases he:a=b
   ·subst he;simp[h1]
   ·have aQ:Nat.beq a b=false:=by
     cases bF:Nat.beq a b
     ·rfl
     ·exact absurd (fX bF) he
    have bF:¬a.toUInt8=b.toUInt8:=λcw=>he (Tn ha hb cw);simp[h1,h2,aQ,bF]
theorem R.pg{l:List Nat}{u:Value}(h:R w m O B (.s l) u):u= .string (strOf l)/\∀c∈l,c<256:=by
 cases h with
 |s _ h=>exact⟨rfl,h⟩
theorem R.l5{k:IntKind}{n:Int}{u:Value}(h:R w m O B (.i k n) u):u= .int k n:=by cases h;rfl
theorem R.vL{x:Bool}{u:Value}(h:R w m O B (.b x) u):u= .bool x:=by cases h;rfl
theorem R.vM{id off:Nat}{u:Value}(h:R w m O B (.p (some (id,off))) u):∃aF,m id=some aF/\u= .pointer (some ⟨aF,off,none⟩):=by
 cases h with
 |p h=>exact⟨_,h,rfl⟩
theorem R.Ge{id:Nat}{u:Value}(h:R w m O B (.m (some id)) u):∃aF,m id=some aF/\u= .map (some aF):=by
 cases h with
 |mp h=>exact⟨_,h,rfl⟩
theorem a7L(x y:List Nat):strOf x++strOf y=strOf (x++y):=by
 apply ByteArray.ext;rw[ByteArray.data_append];simp[strOf]
theorem Tr:∀(x y:List Nat),hZ y x=false->hZ x y=true\/eqL x y=true
 |[],[],_=>.inr I
 |[],_::_,_=>.inl I
 |_::_,[],h=>by simp[hZ] at h
 |a::x,b::y,h=>by
  have h':cond (Nat.blt b a) true (cond (Nat.beq b a) (hZ y x) false)=false:=h;show cond (Nat.blt a b) true (cond (Nat.beq a b) (hZ x y) false)=true\/cond (Nat.beq a b) (eqL x y) false=true;have a7M:¬b<a:=λh1=>by
   have:Nat.blt b a=true:=by simpa [gQ] using h1
   simp[this] at h'
  have k6:Nat.blt b a=false:=by
   cases h3:Nat.blt b a
   ·rfl
   ·exact absurd (by simpa [gQ] using h3) a7M
  rw[k6] at h';by_cases he:a=b
  ·subst he;simp only[gH,cond_true,cond_false] at h' ⊢;rcases Tr x y h' with h1|h1
   ·left;rw[h1];simp
   ·right;exact h1
  ·left;have:Nat.blt a b=true:=by simp[gQ];omega
   rw[this];rfl
theorem Ts:∀(x y:List Nat),hZ x y=true->hZ y x=false/\eqL x y=false
 |[],[],h=>by simp[hZ] at h
 |[],_::_,_=>⟨rfl,rfl⟩
 |_::_,[],h=>by simp[hZ] at h
 |a::x,b::y,h=>by
  have h':cond (Nat.blt a b) true (cond (Nat.beq a b) (hZ x y) false)=true:=h;show cond (Nat.blt b a) true (cond (Nat.beq b a) (hZ y x) false)=false/\cond (Nat.beq a b) (eqL x y) false=false;by_cases hl:a<b
  ·have h1:Nat.blt b a=false:=by
    cases h3:Nat.blt b a
    ·rfl
    ·have:b<a:=by simpa [gQ] using h3
     omega
   have h2:Nat.beq b a=false:=by
    cases h3:Nat.beq b a
    ·rfl
    ·have:=fX h3;omega
   have aQ:Nat.beq a b=false:=by
    cases h3:Nat.beq a b
    ·rfl
    ·have:=fX h3;omega
   simp[h1,h2,aQ]
  ·have h1:Nat.blt a b=false:=by
    cases h3:Nat.blt a b
    ·rfl
    ·exact absurd (by simpa [gQ] using h3) hl
   rw[h1] at h';cases h2:Nat.beq a b with
   |false=>rw[h2] at h';simp at h'
   |true=>
    rw[h2] at h';have:=fX h2;subst this;simp only[cond_false,cond_true] at h';obtain⟨h3,aQ⟩:=Ts x y h';simp[h1,gH,h3,aQ]
theorem Tt(a:List Nat):∀(ex:List (List Nat)),qe a ex=true->a∈ex
 |[],h=>by cases h
 |x::ex,h=>by
  have h:cond (eqL a x) true (qe a ex)=true:=h;cases hx:eqL a x with
  |true=>rw[(ox a x).1 hx];exact Cc
  |false=>rw[hx] at h;exact iM _ (Tt a ex h)
theorem Gf{ex:List (List Nat)}{a:List Nat}{u:Value}(h:R w m O B (.hP ex) u)(hm:qe a ex=true):∃s:ByteArray,u= .string s/\s≠strOf a:=by
 cases h with
 |hP h=>exact⟨_,rfl,h a (Tt a ex hm)⟩
theorem Tu{a b:ByteArray}(h:a≠b):¬a.toList=b.toList:=λe=>h (by
 rw[SI,SI] at e;cases a;cases b;simp only[ByteArray.mk.injEq];exact m3 e)
theorem Tv{a b:ByteArray}(h:a≠b):(a==b)=false:=by
 cases hb:a==b with
 |false=>rfl
 |true=>exact absurd ((SJ _ _).1 hb) h
theorem Tw{k:IntKind}(ay:k= .u8\/k= .i64){n:Nat}(h:n<256):k.wrap (Int.ofNat n)=Int.ofNat n:=by
 rcases ay with rfl|rfl
 ·have:(Int.ofNat n)%2^8=Int.ofNat n:=K7 (Cd _) (by show((n:Nat):Int)<2^8;omega);simp only[IntKind.wrap,IntKind.bits,IntKind.signed,this];simp
 ·have:(Int.ofNat n)%2^64=Int.ofNat n:=K7 (Cd _) (by show((n:Nat):Int)<2^64;omega);have h2:¬(2^63:Int)<=(Int.ofNat n):=by show ¬(2^63:Int)<=((n:Nat):Int);omega
  simp only[IntKind.wrap,IntKind.bits,IntKind.signed,this];simp at h2 ⊢;omega
theorem Tx{op:BinOp}{t:TypeId}{x y v:AV}{a b:Value}(ha:R w m O B x a)(hb:R w m O B y b)(h:binop op x y=some v)(sV:∀hi,x≠ .im hi):
  ∃u,(do eqGuard op t (.tmp 0) (.tmp 0) a b;Go.binOp op t a b:Sem Value).run P w= .ok u w/\R w m O B v u/\∀eX ej,(do eqGuard op t eX ej a b;Go.binOp op t a b:Sem Value)=(do eqGuard op t (.tmp 0) (.tmp 0) a b;Go.binOp op t a b:Sem Value):=by
 unfold binop at h;split at h
 ·rename_i k n l q;obtain rfl:=ha.l5;obtain rfl:=hb.l5;have hg:∀eX ej,eqGuard op t eX ej (.int k n) (.int l q)=pure ():=λeX ej=>by unfold eqGuard;cases op<;>rfl
  simp only[hg];refine(λ⟨u,h1,h2⟩=>⟨u,h1,h2,λ_ _=>trivial⟩:(∃u,(do pure ();Go.binOp op t (.int k n) (.int l q):Sem Value).run P w= .ok u w/\R w m O B v u)->_) ?_;split at h
  ·split at h<;>cases h;rename_i aX;exact⟨_,by simp[Go.binOp,Op.shift,aX],.i _ _⟩
  ·split at h<;>cases h;rename_i aX;exact⟨_,by simp[Go.binOp,Op.shift,aX],.i _ _⟩
  ·rename_i h1 h2;split at h
   ·rename_i sW;subst sW;have iB:(n==q)=decide (n=q):=by rw[sJ];simp
    have m9:(n != q)= !decide (n=q):=by rw[sJ];simp
    cases op<;>first
     |exact absurd I h1
     |exact absurd I h2
     |(
       simp only[binI] at h
       first
       |(
         cases h
         first
         |(refine⟨_,?_,R.i _ _⟩;simp[Go.binOp,Op.intArith,Tl];done)
         |(refine⟨_,?_,R.b _⟩;simp[Go.binOp,Op.intCmp,iB,m9];done)
         |(refine⟨_,?_,R.b _⟩;simp only[Go.binOp,Op.intCmp,ne_eq,not_true_eq_false,if_false,eV,ik,e3];congr 2;rw[sJ];simp;done))
       |(split at h<;>cases h;rename_i aX;refine⟨_,?_,R.i _ _⟩;simp[Go.binOp,Op.intDiv,aX];done)
       |(unfold SV at h;dsimp only at h;cases h;refine⟨_,?_,R.i _ _⟩;simp[Go.binOp,Op.intBits];done))
   ·cases h
 ·rename_i s1 s2;obtain⟨rfl,h1⟩:=ha.pg;obtain⟨rfl,h2⟩:=hb.pg;have hg:∀eX ej,eqGuard op t eX ej (.string (strOf s1)) (.string (strOf s2))=pure ():=λeX ej=>by unfold eqGuard;cases op<;>rfl
  simp only[hg];refine(λ⟨u,h1,h2⟩=>⟨u,h1,h2,λ_ _=>trivial⟩:(∃u,(do pure ();Go.binOp op t (.string (strOf s1)) (.string (strOf s2)):Sem Value).run P w= .ok u w/\R w m O B v u)->_) ?_;have aR:=a7K h1 h2;have a6:Op.bytesLess (strOf s1).toList (strOf s2).toList=hZ s1 s2:=by rw[zG,zG];exact Tq s1 s2 h1 h2
  have c0:(hZ s1 s2||eqL s1 s2)= !hZ s2 s1:=by
   cases h3:hZ s2 s1 with
   |true=>
    have:=Ts s2 s1 h3;have bF:eqL s1 s2=false:=by
     cases cw:eqL s1 s2 with
     |false=>rfl
     |true=>
      have:=(ox s1 s2).1 cw;subst this;exact absurd ((ox s1 s1).2 I) (by rw[this.2];simp)
    simp[this.1,bF]
   |false=>rcases Tr s1 s2 h3 with aQ|aQ<;>simp[aQ]
  have h7:(!hZ s1 s2&& !eqL s1 s2)=hZ s2 s1:=by
   have:=congrArg Bool.not c0;simpa using this
  cases op<;>simp only[binS] at h<;>first
   |(cases h;done)
   |(
     split at h<;>cases h;rename_i cv;have c5x:s1.length+s2.length<4611686018427387904:=by simpa [gQ] using cv
     refine⟨_,?_,.s _ (λc ab=>(eP.1 ab).elim (h1 c) (h2 c))⟩;simp only[Go.binOp,Op.stringOp,vK,eV,ik,e3];rw[if_neg (by simp only[IntKind.max,IntKind.signed,IntKind.bits,if_true];omega),a7L];rfl)
   |(cases h;refine⟨_,?_,R.b _⟩;simp[Go.binOp,Op.stringOp,aR,a6,c0,h7];done)
 ·-- a byte of SS is known FW it leaves
  rename_i cD d j az c;split at h<;>try (cases h;done)
  rename_i sW;subst sW;cases ha with
  | @hc _ _ _ _ _ _ n hn hlt=>
  obtain rfl:=hb.l5;have hg:∀eX ej,eqGuard op t eX ej (.int cD (Int.ofNat n)) (.int cD (Int.ofNat c))=pure ():=λeX ej=>by unfold eqGuard;cases op<;>rfl
  simp only[hg];refine(λ⟨u,h1,h2⟩=>⟨u,h1,h2,λ_ _=>trivial⟩:(∃u,(do pure ();Go.binOp op t (.int cD (Int.ofNat n)) (.int cD (Int.ofNat c)):Sem Value).run P w= .ok u w/\R w m O B v u)->_) ?_;unfold umOp at h;cases ab:(Nat.blt 0 c&&(Nat.beq (d%c) 0&&(decide (cD= .u8)||decide (cD= .i64)))) with
  |false=>rw[ab] at h;cases h
  |true=>
   rw[ab,cond_true] at h;simp only[du,qa,gQ,oh,decide_eq_true_eq] at ab;obtain⟨k7,uy,k8⟩:=ab;obtain⟨e,rfl⟩:=Nat.dvd_of_mod_eq_zero uy;have fm:(Int.ofNat c)≠0:=by intro h;have:c=0:=sK h;omega
   split at h<;>cases h
   ·refine⟨.int cD (Int.ofNat (n%c)),?_,?_⟩
    ·have aR:(Int.ofNat n).tmod (Int.ofNat c)=Int.ofNat (n%c):=rfl;simp only[Go.binOp,Op.intDiv,ne_eq,not_true_eq_false,if_false,fm,aR,eV,ik,e3]
    ·rw[<-hn,Nat.mod_mul_right_mod];exact .i _ _
   ·refine⟨.int cD (Int.ofNat (n/c)),?_,?_⟩
    ·have aR:(Int.ofNat n).tdiv (Int.ofNat c)=Int.ofNat (n/c):=rfl;have h1:n/c<256:=sL (K8 _ _) hlt;have a6:cD.wrap (Int.ofNat (n/c))=Int.ofNat (n/c):=Tw k8 h1;simp only[Go.binOp,Op.intDiv,ne_eq,not_true_eq_false,if_false,fm,aR,a6,eV,ik,e3]
    ·refine .hc ?_ (sL (K8 _ _) hlt);rw[<-hn,Nat.mul_div_cancel_left _ U,Nat.mod_mul_right_div_self]
 ·exact absurd I (sV _)
 ·rename_i l ex;obtain⟨rfl,h1⟩:=ha.pg;unfold sxEq at h;cases hm:qe l ex with
  |false=>rw[hm] at h;cases h
  |true=>
   obtain⟨s,rfl,a5⟩:=Gf hb hm;have hg:∀eX ej,eqGuard op t eX ej (.string (strOf l)) (.string s)=pure ():=λeX ej=>by unfold eqGuard;cases op<;>rfl
   simp only[hg];refine(λ⟨u,h1,h2⟩=>⟨u,h1,h2,λ_ _=>trivial⟩:(∃u,(do pure ();Go.binOp op t (.string (strOf l)) (.string s):Sem Value).run P w= .ok u w/\R w m O B v u)->_) ?_;have aR:=Tu (p9 a5);rw[hm,cond_true] at h;split at h<;>cases h<;>(refine⟨_,?_,R.b _⟩;simp[Go.binOp,Op.stringOp,aR];done)
 ·rename_i ex l;obtain⟨rfl,h1⟩:=hb.pg;unfold sxEq at h;cases hm:qe l ex with
  |false=>rw[hm] at h;cases h
  |true=>
   obtain⟨s,rfl,a5⟩:=Gf ha hm;have hg:∀eX ej,eqGuard op t eX ej (.string s) (.string (strOf l))=pure ():=λeX ej=>by unfold eqGuard;cases op<;>rfl
   simp only[hg];refine(λ⟨u,h1,h2⟩=>⟨u,h1,h2,λ_ _=>trivial⟩:(∃u,(do pure ();Go.binOp op t (.string s) (.string (strOf l)):Sem Value).run P w= .ok u w/\R w m O B v u)->_) ?_;have aR:=Tu a5;rw[hm,cond_true] at h;split at h<;>cases h<;>(refine⟨_,?_,R.b _⟩;simp[Go.binOp,Op.stringOp,aR];done)
 ·cases h
theorem ok_bin{op:BinOp}{t:TypeId}{x y v:AV}{a b:Value}(ha:R w m O B x a)(hb:R w m O B y b)(h:binop op x y=some v):
  ∃u,(do eqGuard op t (.tmp 0) (.tmp 0) a b;Go.binOp op t a b:Sem Value).run P w= .ok u w/\R w m O B v u/\∀eX ej,(do eqGuard op t eX ej a b;Go.binOp op t a b:Sem Value)=(do eqGuard op t (.tmp 0) (.tmp 0) a b;Go.binOp op t a b:Sem Value):=by
 by_cases hi:∃hi,x= .im hi
 ·obtain⟨hi,rfl⟩:=hi;cases ha with
  |im n hn=>
   refine Tx (x:=.i .i64 n) (.i _ _) hb ?_ (λ_ h=>by cases h);cases y with
   |i l c=>
    cases c with
    |ofNat c=>
     replace h:(if l= .i64/\c=40 then(match op with| .gtr=>some (AV.b hi)| .leq=>some (.b (!hi))|_=>none) else none)=some v:=h;split at h
     ·rename_i ab;obtain⟨rfl,rfl⟩:=ab;split at h<;>cases h
      ·show(if IntKind.i64=IntKind.i64 then some (AV.b (decide (Int.ofNat 40<n))) else none)=_;rw[if_pos I,hn];rfl
      ·show(if IntKind.i64=IntKind.i64 then some (AV.b (decide (n<=Int.ofNat 40))) else none)=_;rw[if_pos I,hn]
       congr 2
       by_cases zH:(40:Int)<n
       ·rw[decide_eq_true zH,decide_eq_false (by show ¬n<=40;omega)];rfl
       ·rw[decide_eq_false zH,decide_eq_true (by show n<=40;omega)];rfl
     ·cases h
    |negSucc c=>cases h
   |_=>cases h
 ·exact Tx ha hb h λh e=>hi ⟨h,e⟩
theorem a7N(d:Nat){t:TypeId}(ht:P.underlying t=some .bool)(a b:Bool):(Op.equalIn (d+1) t (.bool a) (.bool b)).run P w= .ok (a==b) w:=by
 simp[Op.equalIn,run_underlying ht]
theorem a7O{t:TypeId}(ht:P.underlying t=some .bool){x y:AV}{v:Bool}{a b:Value}(ha:R w m O B x a)(hb:R w m O B y b)(h:binopB x y=some v)(eX ej:Operand):
  (do eqGuard .eql t eX ej a b;Go.binOp .eql t a b:Sem Value).run P w= .ok (.bool v) w/\(do eqGuard .neq t eX ej a b;Go.binOp .neq t a b:Sem Value).run P w= .ok (.bool (!v)) w:=by
 unfold binopB at h;split at h<;>cases h;rename_i c d;obtain rfl:=ha.vL;obtain rfl:=hb.vL;have he:(Op.equal t (.bool c) (.bool d)).run P w= .ok (c==d) w:=a7N 9999 ht c d;have h1:Go.binOp .eql t (.bool c) (.bool d)=(do pure (.bool (←Op.equal t (.bool c) (.bool d))):Sem Value):=rfl;have h2:Go.binOp .neq t (.bool c) (.bool d)=(do pure (.bool (!(←Op.equal t (.bool c) (.bool d)))):Sem Value):=rfl;have bL:eqGuard .eql t eX ej (.bool c) (.bool d)=pure ():=rfl;have bQ:eqGuard .neq t eX ej (.bool c) (.bool d)=pure ():=rfl;rw[h1,h2,bL,bQ];constructor<;>simp[he]
def Ty(P:Program)(t:TypeId)(kind:Nat):Prop:=
 (kind=0/\∃ms,P.underlying t=some (.interface ms))\/(kind=1/\∃e,P.underlying t=some (.pointer e))\/(kind=2/\∃aE rs v,P.underlying t=some (.func aE rs v))∨
 (kind=3/\∃e,P.underlying t=some (.slice e))\/(kind=4/\∃k e,P.underlying t=some (.map k e))
theorem a7P{t:TypeId}{eX ej:Operand}{v:Bool}{A C:Value}(bL:eqGuard .eql t eX ej A C=pure ())(bQ:eqGuard .neq t eX ej A C=pure ())(h1:Go.binOp .eql t A C=(do pure (.bool (←Op.equal t A C)):Sem Value))
  (h2:Go.binOp .neq t A C=(do pure (.bool (!(←Op.equal t A C))):Sem Value)) (he:∀d,(Op.equalIn (d+1) t A C).run P w= .ok v w):
  ((do eqGuard .eql t eX ej A C;Go.binOp .eql t A C:Sem Value).run P w= .ok (.bool v) w/\(do eqGuard .neq t eX ej A C;Go.binOp .neq t A C:Sem Value).run P w= .ok (.bool (!v)) w):=by
 have Cw:(Op.equal t A C).run P w= .ok v w:=he 9999;rw[h1,h2,bL,bQ];constructor<;>simp[Cw]
theorem a7Q{t:TypeId}{kind:Nat}(ht:Ty P t kind){x y:AV}{v:Bool}{a b:Value}
  (ha:R w m O B x a) (hb:R w m O B y b) (h:isNilEq kind x y=some v) (eX ej:Operand):
  (((do eqGuard .eql t eX ej a b;Go.binOp .eql t a b:Sem Value).run P w= .ok (.bool v) w/\(do eqGuard .neq t eX ej a b;Go.binOp .neq t a b:Sem Value).run P w= .ok (.bool (!v)) w)):=by
 unfold isNilEq at h;split at h
 case h_13=>cases h
 case h_12=>
  rcases ht with⟨rfl,_⟩|⟨rfl,_⟩|⟨rfl,_⟩|⟨rfl,_⟩|⟨rfl,_⟩<;>cases h
 all_goals
  cases h<;>cases ha<;>cases hb<;>
  (rcases ht with⟨ay,ms,hu⟩|⟨ay,e,hu⟩|⟨ay,aE,rs,c5y,hu⟩|⟨ay,e,hu⟩|⟨ay,c6,e,hu⟩<;>first
   |(cases ay;done)
   |(refine a7P I I I I (λd=>?_);simp[Op.equalIn,run_underlying hu];done))
end
section
variable {P:Program}{w:World}{m:Nat->Option Nat}{O:Nat->Prop}{B:Nat}
theorem Lx{t:TypeId}{i off:Nat}{aa:Option Nat}(h:fieldOf P t i=some (off,aa)):
  ∃a8 rA,P.underlying t=some (.struct a8)/\a8[i]? =some rA/\rA.offset=off/\shapeOf P rA.type=some aa/\shN aa≠0:=by
 unfold fieldOf at h;split at h<;>try (cases h;done)
 rename_i a8 hu;split at h<;>try (cases h;done)
 rename_i rA hf;split at h<;>try (cases h;done)
 rename_i hz an;split at h<;>cases h;rename_i bb;exact⟨a8,rA,hu,hf,rfl,an,bb⟩
theorem Tz{aa:Option Nat}{c:List AV}{v:AV}(h:dU aa c=some v)(hf:∀x∈c,conf none x=true):v.cells=c.take (shN aa)/\shN aa<=c.length:=by
 cases aa with
 |none=>
  obtain⟨r,rfl⟩:=Gb h;have:=hf v (by simp);refine⟨?_,by simp[shN]⟩;cases v<;>first|rfl|(simp[conf] at this)
 |some n=>
  obtain⟨rfl,hn⟩:=Gc h;exact⟨rfl,hn⟩
theorem a7R{aa:Option Nat}{c:List AV}{v:AV}(h:dU aa c=some v)(hf:∀x∈c,conf none x=true):conf aa v=true:=by
 cases aa with
 |none=>
  obtain⟨r,rfl⟩:=Gb h;exact hf v aG
 |some n=>
  obtain⟨rfl,hn⟩:=Gc h;simp[conf];omega
theorem R.TA{ol:Bool}{cs:List AV}{u:Value}(h:R w m O B (.dG ol (.ah cs)) u){aa:Option Nat}{k:Nat}{v:AV}(av:dU aa (cs.drop k)=some v):
  ∃aF o,u= .pointer (some ⟨aF,o,none⟩)/\R w m O B (.dG ol v) (.pointer (some ⟨aF,o+k,none⟩)):=by
 cases h with
 | @dG _ _ _ _ _ aF off ba cp hb b3 ab al hf=>
  simp only[AV.cells] at ab al hf;have TB:∀x∈cs.drop k,conf none x=true:=λx hx=>hf x (og hx);obtain⟨nH,hle⟩:=Tz av TB;have hlen:v.cells.length=shN aa:=by rw[nH,gI];omega
  have ay:k+shN aa<=cs.length\/shN aa=0:=by simp at hle;omega
  refine⟨aF,off,rfl,.dG (λj=>ba (k+j)) cp hb b3 (λj aC=>?_) (λj aC=>?_) (λx hx=>?_)⟩
  ·rw[vG];exact ab (k+j) U
  ·have fw:k+j<cs.length:=by omega
   have e:v.cells[j]=cs[k+j]:=by
    have:v.cells[j]? =cs[k+j]? :=by
     rw[nH,p_ U,sH]
    rw[cK aC,cK fw] at this;exact il this
   rw[e];exact al (k+j) fw
  ·rw[nH] at hx;exact TB x (pa hx)
theorem TC{t:TypeId}{i off:Nat}{aa:Option Nat}(h:fieldOf P t i=some (off,aa))(b o:Nat):
  (Instr.fieldAt t (.pointer (some ⟨b,o,none⟩)) i).run P w= .ok (.pointer (some ⟨b,o+off,none⟩)) w:=by
 obtain⟨a8,rA,hu,hf,rfl,an,bb⟩:=Lx h;obtain⟨_,cv,_⟩:=k4 an w;simp[Instr.fieldAt,run_underlying hu,hf,Instr.sureAddr,fieldPlace,cv,bb,k5]
theorem a7S{t:TypeId}{i off:Nat}{aa:Option Nat}(h:fieldOf P t i=some (off,aa)){x v:AV}{u:Value}(hx:R w m O B x u)
  (av:fieldAddrA off aa x=some v):∃cj,(Instr.fieldAt t u i).run P w= .ok cj w/\R w m O B v cj:=by
 unfold fieldAddrA at av;split at av<;>try (cases av;done)
 ·rename_i hx;cases av;obtain⟨aF,hm,rfl⟩:=hx.vM;exact⟨_,TC h _ _,.p hm⟩
 ·rename_i hx;split at av<;>cases av;rename_i bM ht;obtain⟨aF,o,rfl,al⟩:=hx.TA ht;exact⟨_,TC h _ _,al⟩
theorem TD{t:TypeId}{aa:Option Nat}(an:shapeOf P t=some aa){cs:List AV}{arr:Array Value}(ab:bK w m O B cs arr.toList)(hf:∀x∈cs,conf none x=true){off:Nat}{v:AV}(av:dU aa (cs.drop off)=some v):
  ∃cj,(part t arr off).run P w= .ok cj w/\R w m O B v cj:=by
 obtain⟨h1,h2,_⟩:=k4 an w;have hd:=ab.drop off;cases aa with
 |none=>
  obtain⟨r,al⟩:=Gb av;rw[al] at hd;obtain⟨u,hu,jQ⟩:=hd.get (i:=0) (v:=v) I;rw[sH] at hu;have sX:arr[off]? =some u:=by simpa using hu
  exact⟨u,by simp[part,h1,sX],jQ⟩
 |some n=>
  obtain⟨rfl,hn⟩:=Gc av;have e:(arr.extract off (off+n))=((arr.toList.drop off).take n).toArray:=by
   apply m3;simp
  exact⟨.agg (arr.extract off (off+n)),by simp[part,h1,h2,shN],by rw[e];exact R.m8 (hd.take n) (λx hx=>hf x (og (pa hx)))⟩
theorem a7T{t:TypeId}{i off:Nat}{aa:Option Nat}(h:fieldOf P t i=some (off,aa)){cs:List AV}{v:AV}{u:Value}(hx:R w m O B (.ah cs) u)(av:dU aa (cs.drop off)=some v):
  ∃cj,(Instr.field t u i).run P w= .ok cj w/\R w m O B v cj:=by
 obtain⟨a8,rA,hu,hf,rfl,an,bb⟩:=Lx h;obtain⟨bo,rfl,hl,kx⟩:=hx.qk;obtain⟨cj,h1,h2⟩:=TD (w:=w) an hl kx av;exact⟨cj,by simp[Instr.field,run_underlying hu,hf,asAgg,h1],h2⟩
theorem a7U{t e:TypeId}{n:Nat}{aa:Option Nat}(hu:P.underlying t=some (.array n e))(an:shapeOf P e=some aa){x v:AV}{u:Value}(hx:R w m O B x u){k:IntKind}{j:Nat}(aC:j<n)
  (av:fieldAddrA (j*shN aa) aa x=some v):∃cj,(Instr.indexAt t u (.int k (Int.ofNat j))).run P w= .ok cj w/\R w m O B v cj:=by
 unfold fieldAddrA at av;obtain⟨_,cv,_⟩:=k4 an w;have key:∀b o,(Instr.indexAt t (.pointer (some ⟨b,o,none⟩)) (.int k (Int.ofNat j))).run P w= .ok (.pointer (some ⟨b,o+j*shN aa,none⟩)) w:=λb o=>by
  simp[Instr.indexAt,asIntOf,run_underlying hu,Instr.sureAddr,cv,k5,aC]
 split at av<;>try (cases av;done)
 ·rename_i hx;cases av;obtain⟨aF,hm,rfl⟩:=hx.vM;exact⟨_,key _ _,.p hm⟩
 ·rename_i hx;split at av<;>cases av;rename_i bM ht;obtain⟨aF,o,rfl,al⟩:=hx.TA ht;exact⟨_,key _ _,al⟩
theorem a7V{t e:TypeId}{kt:Option Nat}(hu:P.underlying t=some (.slice e))(an:shapeOf P e=some kt){x v:AV}{u:Value}(hx:R w m O B x u){k:IntKind}{j:Nat}
  (av:idxSlA kt x j=some v):∃cj,(Instr.indexAt t u (.int k (Int.ofNat j))).run P w= .ok cj w/\R w m O B v cj:=by
 unfold idxSlA at av;obtain⟨_,cv,_⟩:=k4 an w;have key:∀b o len cap,j<len->(Instr.indexAt t (.slice (some ⟨b,o,none⟩) len cap) (.int k (Int.ofNat j))).run P w= .ok (.pointer (some ⟨b,o+j*shN kt,none⟩)) w:=λb o len cap aC=>by
  simp[Instr.indexAt,asIntOf,run_underlying hu,cv,k5,aC]
 split at av<;>try (cases av;done)
 ·rename_i hx;split at av<;>cases av;rename_i f_;simp only[du,decide_eq_true_eq] at f_;obtain⟨hlt,rfl⟩:=f_;have a7W:=by simpa [gQ] using hlt
  cases hx with
  |ao h hl ab hn mw=>exact⟨_,key _ _ _ _ a7W,.p h⟩
 ·rename_i hx;split at av<;>try (cases av;done)
  rename_i he;subst he;split at av<;>cases av;rename_i bM TE;rw[Cr] at TE;obtain⟨aC,rfl⟩:=fC.1 TE;cases hx with
  |lD=>simp at aC
  | @a_ _ _ _ _ _ _ aF off fZ sp ba cp rB ab al hl hf fu=>
   have a5:∀ {l:List AV},j<l.length->l≠[]:=λh e=>by subst e;simp at h
   obtain rfl:=fu (a5 aC);obtain⟨h1,h2,h3⟩:=cp (a5 aC);exact⟨_,key _ _ _ _ aC,.dG (ba j) h1 h2 h3 (λi hi=>ab j aC i hi) (λi hi=>al j aC i hi) (hf _ (bJ aC))⟩
theorem a7X{t:TypeId}(hu:P.underlying t=some .string){l:List Nat}{u:Value}(hx:R w m O B (.s l) u){k:IntKind}{j c:Nat}(aC:nth l j=some c):
  (Instr.index t u (.int k (Int.ofNat j))).run P w= .ok (.int .u8 (Int.ofNat c)) w:=by
 obtain⟨rfl,hl⟩:=hx.pg;rw[Cr] at aC;obtain⟨hlt,hF⟩:=fC.1 aC;have ab:c<256:=hl c (by rw[<-hF];exact bJ hlt);have an:(strOf l)[j]? =some c.toUInt8:=by
  have h1:j<(strOf l).size:=by rw[vK];exact hlt
  rw[getElem?_pos (strOf l) j h1]
  congr 1
  show(strOf l).data[j]=_;simp[strOf,hF]
 simp only[Instr.index,asIntOf,eV,ik,e3,run_underlying hu];have:(0:Int)<=Int.ofNat j:=Cd j;simp[an];omega
theorem a7Y{t e:TypeId}{n:Nat}{aa:Option Nat}(hu:P.underlying t=some (.array n e))(an:shapeOf P e=some aa){cs:List AV}{v:AV}{u:Value}(hx:R w m O B (.ah cs) u){k:IntKind}{j:Nat}(aC:j<n)
  (av:dU aa (cs.drop (j*shN aa))=some v):∃cj,(Instr.index t u (.int k (Int.ofNat j))).run P w= .ok cj w/\R w m O B v cj:=by
 obtain⟨_,cv,_⟩:=k4 an w;obtain⟨bo,rfl,hl,kx⟩:=hx.qk;obtain⟨cj,h1,h2⟩:=TD (w:=w) an hl kx av;exact⟨cj,by simp[Instr.index,asIntOf,run_underlying hu,cv,aC,h1],h2⟩
theorem a7Z{l:List AV}{u:Value}(hx:R w m O B (.a9 l) u){i:Nat}{v:AV}(av:nth l i=some v):∃cj,(Instr.extract u i).run P w= .ok cj w/\R w m O B v cj:=by
 obtain⟨bo,rfl,hl⟩:=hx.Ls;rw[Cr] at av;obtain⟨cj,h1,h2⟩:=hl.get av;have TF:bo[i]? =some cj:=by simpa using h1
 exact⟨cj,by simp[Instr.extract,TF],h2⟩
end
section
variable {P:Program}{w:World}{m:Nat->Option Nat}{O:Nat->Prop}{B:Nat}
theorem a8a{k:IntKind}{n y:Nat}{code:BoundsCode}(h:n<=y):(Instr.sliceBound (.int k (Int.ofNat n)) y code).run P w= .ok n w:=by
 have:((Int.ofNat n)<=(y:Int)):=by show((n:Nat):Int)<=y;omega
 simp[Instr.sliceBound,asIntOf,h]
theorem TG{k:IntKind}{n y:Nat}{code:BoundsCode}(h:n<=y):(Instr.sliceBound (.int k (n:Int)) y code).run P w= .ok n w:=a8a h
inductive lG(d:Nat):Option Value->Nat->Prop
 |none:lG d none d
 |some (k:IntKind) (n:Nat):lG d (some (.int k (Int.ofNat n))) n
theorem a8b{env:Env}(cp:∀b,O b->B<=b)(de:Globs env w B){ao:a1 AV}{a:Act}(an:iP w m O B ao a.tmps.toList){x:Option Operand}{bP:Option aI}(hx:opdO x=some bP){d n:Nat}(av:bndO (evalA env ao) bP d=some n):lG d (x.map a.eval) n:=by
 cases x with
 |none=>
  cases hx;simp only[bndO,cJ] at av;subst av;exact .none
 |some x=>
  simp only[opdO] at hx;split at hx<;>cases hx;rename_i eX eY;simp only[bndO] at av;split at av<;>try (cases av;done)
  rename_i v he;obtain⟨k,rfl⟩:=Cv av;have:=(Lv cp de an eY he).l5;simp only[FP,this];exact .some k n
theorem sY{isSlice:Bool}{len cap:Nat}{c5 hi:Option Value}{l h:Nat}(hl:lG 0 c5 l)(hh:lG len hi h)(h1:l<=h)(h2:h<=cap):
  (Instr.sliceBounds isSlice len cap c5 hi none).run P w= .ok (l,h,cap) w:=by
 cases hl<;>cases hh<;>simp[Instr.sliceBounds,TG,h1,h2]
theorem TH{isSlice:Bool}{len cap:Nat}{c5:Option Value}{l h k:Nat}{Cx uz:IntKind}(hl:lG 0 c5 l)(h1:l<=h)(h2:h<=k)(h3:k<=cap):
  (Instr.sliceBounds isSlice len cap c5 (some (.int Cx (Int.ofNat h))) (some (.int uz (Int.ofNat k)))).run P w= .ok (l,h,k) w:=by
 cases hl<;>simp[Instr.sliceBounds,TG,h1,h2,h3]
theorem a8c(s:List Nat)(l h:Nat):(strOf s).extract l h=strOf ((s.drop l).take (h-l)):=by
 apply ByteArray.ext;rw[ByteArray.data_extract];apply m3;simp[strOf,FQ,List.map_drop]
theorem a8d{t:TypeId}(hu:P.underlying t=some .string){s:List Nat}{u:Value}(hx:R w m O B (.s s) u){c5 hi:Option Value}{l h:Nat}(hl:lG 0 c5 l)(hh:lG s.length hi h)(h1:l<=h)(h2:h<=s.length):
  ∃cj,(Instr.sliceAt t u c5 hi none).run P w= .ok cj w/\R w m O B (.s ((s.drop l).take (h-l))) cj:=by
 obtain⟨rfl,hb⟩:=hx.pg;refine⟨_,?_,.s _ (λc ab=>hb c (og (pa ab)))⟩;simp[Instr.sliceAt,Instr.slice,run_underlying hu,vK,sY hl hh h1 h2,a8c]
theorem a8e{t e:TypeId}{n:Nat}{aa:Option Nat}(hu:P.underlying t=some (.array n e))(an:shapeOf P e=some aa){id off aF k:Nat}(hm:m id=some aF)(ay:eD w aF=some k)(Gg:off+n*shN aa<=k)
  {c5 hi:Option Value} {l h:Nat} (hl:lG 0 c5 l) (hh:lG n hi h) (h1:l<=h) (h2:h<=n):
  ∃cj,(Instr.sliceAt t (.pointer (some ⟨aF,off,none⟩)) c5 hi none).run P w= .ok cj w/\R w m O B (.ao id (if n=l then off else off+l*shN aa) (h-l) aa (some (n-l))) cj:=by
 obtain⟨_,cv,_⟩:=k4 an w;refine⟨.slice (some ⟨aF,if n=l then off else off+l*shN aa,none⟩) (h-l) (n-l),?_,.ao hm U (λc ab=>by cases ab;rfl) ay ?_⟩
 ·simp only[Instr.sliceAt,run_underlying hu,eV,e3,Instr.sureAddr,ik,sY hl hh h1 h2,cv];split<;>simp[k5]
 ·split
  ·rename_i e;subst e;simp;omega
  ·have:(n-l)*shN aa+l*shN aa=n*shN aa:=by rw[<-jL];congr 1;omega
   omega
theorem a8f{t e:TypeId}{kt:Option Nat}(hu:P.underlying t=some (.slice e))(an:shapeOf P e=some kt){id off len:Nat}{aa cap:Option Nat}(h6:aa=kt){u:Value}(hx:R w m O B (.ao id off len aa cap) u)
  {c5 hi:Option Value} {l h:Nat} (hl:lG 0 c5 l) (hh:lG len hi h) (h1:l<=h):
  (∀(fG:Option Value) (uz:IntKind) (k:Nat),fG=some (.int uz (Int.ofNat k))->hi.isSome=true->h<=k->k<=(cap.getD len)→
   ∃cj,(Instr.sliceAt t u c5 hi fG).run P w= .ok cj w/\R w m O B (.ao id (if k=l then off else off+l*shN aa) (h-l) aa (some (k-l))) cj)∧
  (∀c,cap=some c->h<=c->∃cj,(Instr.sliceAt t u c5 hi none).run P w= .ok cj w/\R w m O B (.ao id (if c=l then off else off+l*shN aa) (h-l) aa (some (c-l))) cj)∧
  (cap=none->h<=len->l=0->∃cj,(Instr.sliceAt t u c5 hi none).run P w= .ok cj w/\R w m O B (.ao id off h aa none) cj)∧
  (cap=none->h<=len->l<len->∃cj,(Instr.sliceAt t u c5 hi none).run P w= .ok cj w/\R w m O B (.ao id (off+l*shN aa) (h-l) aa none) cj)∧
  (cap=none->l=len->h=len->∃cj,(Instr.sliceAt t u c5 hi none).run P w= .ok cj w/\R w m O B (.a_ true aa []) cj):=by
 subst h6;obtain⟨_,cv,_⟩:=k4 an w;cases hx with
 | @ao _ _ _ _ _ _ aF n fZ _ _ hm hlen ab hn mw=>
  have Ly:∀k,l<=k->(k-l)*shN aa+l*shN aa=k*shN aa:=λk ay=>by rw[<-jL];congr 1;omega
  have a8g:∀k,k<=fZ->k*shN aa<=fZ*shN aa:=λk ay=>rk _ ay;refine⟨?_,?_,?_,?_,?_⟩
  ·rintro fG uz k rfl ph gJ oy;have TI:k<=fZ:=by
    cases cap with
    |none=>simp at oy;omega
    |some c=>have:=ab c I;simp at oy;omega
   cases hh with
   |none=>simp at ph
   |some Cx h=>
    refine⟨.slice (some ⟨aF,if k=l then off else off+l*shN aa,none⟩) (h-l) (k-l),?_,.ao hm U (λc ab=>by cases ab;rfl) hn ?_⟩
    ·simp only[Instr.sliceAt,Instr.slice,run_underlying hu,eV,e3,TH hl h1 gJ TI,cv,ik];split<;>simp[k5]
    ·have:=a8g k TI;split
     ·rename_i e;subst e;simp;omega
     ·have:=Ly k U;omega
  ·rintro c rfl uy;obtain rfl:=ab c I;refine⟨.slice (some ⟨aF,if fZ=l then off else off+l*shN aa,none⟩) (h-l) (fZ-l),?_,.ao hm U (λc ab=>by cases ab;rfl) hn ?_⟩
   ·simp only[Instr.sliceAt,Instr.slice,run_underlying hu,eV,e3,sY hl hh h1 uy,cv,ik];split<;>simp[k5]
   ·split
    ·rename_i e;subst e;simp;omega
    ·have:=Ly fZ U;omega
  ·rintro rfl hle rfl;refine⟨.slice (some ⟨aF,off,none⟩) h fZ,?_,.ao hm U (λc ab=>by cases ab) hn mw⟩;simp only[Instr.sliceAt,Instr.slice,run_underlying hu,eV,e3,sY hl hh h1 (o_ hle hlen),cv,ik];split<;>simp[k5]
  ·rintro rfl hle hlt;refine⟨.slice (some ⟨aF,off+l*shN aa,none⟩) (h-l) (fZ-l),?_,.ao hm U (λc ab=>by cases ab) hn ?_⟩
   ·simp only[Instr.sliceAt,Instr.slice,run_underlying hu,eV,e3,sY hl hh h1 (o_ hle hlen),cv,ik];rw[if_neg U];simp[k5]
   ·have:=Ly fZ U;omega
  ·rintro rfl ji Cy;refine⟨.slice (some ⟨aF,if fZ=l then off else off+l*shN aa,none⟩) (h-l) (fZ-l),?_,?_⟩
   ·simp only[Instr.sliceAt,Instr.slice,run_underlying hu,eV,e3,sY hl hh h1 (show h<=fZ by omega),cv,ik];split<;>simp[k5]
   ·rw[show h-l=([]:List AV).length from by rw[ji,Cy];simp];exact .a_ (λ_ _=>.bool true) (λh=>absurd I h) (λi h=>by simp at h) (λi h=>by simp at h) (λi h=>by simp at h) (k0 _) (λv av=>by simp at av) (λh=>absurd I h)
theorem a8h{t e:TypeId}{kt:Option Nat}(hu:P.underlying t=some (.slice e))(an:shapeOf P e=some kt){c5 hi fG:Option Value}(hl:lG 0 c5 0)(hh:lG 0 hi 0)(hm:lG 0 fG 0)(ph:fG.isSome=true->hi.isSome=true):
  (Instr.sliceAt t (.slice none 0 0) c5 hi fG).run P w= .ok (.slice none 0 0) w:=by
 obtain⟨_,cv,_⟩:=k4 an w;cases hm with
 |none=>simp[Instr.sliceAt,Instr.slice,run_underlying hu,sY hl hh,cv]
 |some uz=>
  cases hh with
  |none=>simp at ph
  |some Cx=>
   have:=TH (P:=P) (w:=w) (isSlice:=true) (len:=0) (cap:=0) (Cx:=Cx) (uz:=uz) hl (br 0) (br 0) (br 0);simp only[Instr.sliceAt,Instr.slice,run_underlying hu,eV,e3,this,cv,ik];simp
theorem a8i{o:Oper}{x:Operand}(ho:o.op= .nilCheck x){c8:Operand->Value}{v:AV}(hx:R w m O B v (c8 x))(h:nilOk v=true):(execOp c8 o).run P w= .ok (.value (c8 x)) w:=by
 generalize hu:c8 x=u at hx;cases hx<;>simp[nilOk] at h<;>simp[execOp,ho,hu]
theorem a8j{b:Bool}{u:Value}(hx:R w m O B (.b b) u):(Op.unary .not u).run P w= .ok (.bool (!b)) w:=by
 obtain rfl:=hx.vL;rfl
theorem a8k{k:IntKind}{n:Int}{u:Value}(hx:R w m O B (.i k n) u):(Op.unary .neg u).run P w= .ok (.int k (k.wrap (0-n))) w:=by
 obtain rfl:=hx.l5;rfl
theorem a8l{s d:TypeId}{k eR:IntKind}(an:P.underlying s=some (.int eR))(hd:P.underlying d=some (.int k)){j:IntKind}{n:Int}{u:Value}(hx:R w m O B (.i j n) u):(convert s d u).run P w= .ok (.int k (wrapN k n)) w:=by
 obtain rfl:=hx.l5;simp[convert,run_underlying an,run_underlying hd,Conv.intToInt,Tl]
theorem a8m{s d:TypeId}{eR Cz:IntKind}(an:P.underlying s=some (.int eR))(hd:P.underlying d=some (.int .i64)){q j:Nat}{u:Value}(hx:R w m O B (.hc Cz q j) u):∃n,(convert s d u).run P w= .ok (.int .i64 (Int.ofNat n)) w/\R w m O B (.hc .i64 q j) (.int .i64 (Int.ofNat n)):=by
 cases hx with
 | @hc _ _ _ _ _ _ n hn hlt=>
 exact⟨n,by simp only[convert,eV,run_underlying an,run_underlying hd,e3,Conv.intToInt];rw[Tw (.inr I) hlt];rfl,.hc hn hlt⟩
theorem a8n{t:TypeId}{d:TypeDesc}(hu:P.underlying t=some d)(hd:∀ms,d≠ .interface ms)(u:Value):(Instr.makeInterface t u).run P w= .ok (.iface t u) w:=by
 simp only[Instr.makeInterface,eV,run_underlying hu,e3];cases d<;>first|rfl|exact absurd I (hd _)
theorem a8o{t Lz:TypeId}{d:TypeDesc}(hu:P.underlying t=some d)(hd:∀ms,d≠ .interface ms){z:AV}(bb:zeroOf P t=some z){two:Bool}{x:AV}{u:Value}(hx:R w m O B x u){v:AV}
  (av:assertA x t z two=some v):∃cj,(Instr.typeAssert u Lz t two).run P w= .ok cj w/\R w m O B v cj:=by
 unfold assertA at av;obtain⟨eI,ir,mC,_⟩:=rz bb w;have mD:=mC w m O B;have xI:∀ {a:AV} {b:Value} (c:Bool),R w m O B a b->R w m O B (.a9 [a,.b c]) (.tuple #[b,.bool c]):=λc h=>R.uv (bK.cons h (bK.cons (.b c) bK.nil));split at av<;>try (cases av;done)
 ·rename_i Gh bM hx;cases hx with
  | @it _ _ _ _ _ cj al=>
   split at av
   ·rename_i he;subst he;cases av;cases two with
    |false=>exact⟨cj,by simp only[Instr.typeAssert,eV,run_underlying hu,e3];cases d<;>first|exact absurd I (hd _)|simp,al⟩
    |true=>exact⟨.tuple #[cj,.bool true],by simp only[Instr.typeAssert,eV,run_underlying hu,e3];cases d<;>first|exact absurd I (hd _)|simp,xI true al⟩
   ·rename_i he;cases two with
    |false=>cases av
    |true=>
     cases av;exact⟨.tuple #[eI,.bool false],by simp only[Instr.typeAssert,eV,run_underlying hu,e3];cases d<;>first|exact absurd I (hd _)|simp[he,ir],xI false mD⟩
 ·rename_i hx;cases hx;cases two with
  |false=>cases av
  |true=>
   cases av;exact⟨.tuple #[eI,.bool false],by simp only[Instr.typeAssert,eV,run_underlying hu,e3];cases d<;>first|exact absurd I (hd _)|simp[ir],xI false mD⟩
end
def iR{α β:Type}(r:α->β->Prop):List α->List β->Prop
 |[],[]=>True
 |x::xs,y::ba=>r x y/\iR r xs ba
 |_,_=>False
theorem CA{α β TJ:Type}{f:α->Option β}{g:α->TJ}{r:β->TJ->Prop}(h:∀x y,f x=some y->r y (g x)):∀ {l:List α} {ba:List β},mapOL f l=some ba->iR r ba (l.map g)
 |[],ba,hy=>by simp[mapOL] at hy;subst hy;trivial
 |x::xs,ba,hy=>by
  rw[mapOL] at hy;split at hy
  ·rename_i y fa hx dH;cases hy;exact⟨h x y hx,CA h dH⟩
  ·cases hy
section
variable {P:Program}{w:World}{m:Nat->Option Nat}{O:Nat->Prop}{B:Nat}
theorem bK.store{c bX v:List AV}{off:Nat}{arr:Array Value}{us:List Value}(ab:bK w m O B c arr.toList)(av:bK w m O B v us)(h:storeCells c off v=some bX):bK w m O B bX (wr arr off us).toList:=by
 obtain⟨hle,rfl⟩:=Ct h;have uw:arr.size=c.length:=by have:=ab.1;simpa using this
 have hlen:=av.1;have e:(wr arr off us).toList=arr.toList.take off++(us++arr.toList.drop (off+us.length)):=by
  apply List.ext_getElem?;intro i;have:=Ga us arr off i U;rw[mn,this];rw[Cb];simp only[gI,sF];by_cases bF:i<off
  ·rw[if_neg U,if_pos U,p_ bF];simp
  ·rw[if_neg (show ¬i<min off arr.size by omega),Cb];by_cases cw:i-min off arr.size<us.length
   ·rw[if_pos cw,if_pos U,show min off arr.size=off by omega]
   ·rw[if_neg cw,if_neg U,sH];rw[mn];congr 1;omega
 rw[e,hlen];exact(ab.take off).append (av.append (ab.drop _))
theorem a8p{c bX v:List AV}{off:Nat}(ab:∀x∈c,conf none x=true)(av:∀x∈v,conf none x=true)(h:storeCells c off v=some bX):∀x∈bX,conf none x=true:=by
 obtain⟨_,rfl⟩:=Ct h;intro x hx;rcases eP.1 hx with hx|hx
 ·exact ab x (pa hx)
 ·rcases eP.1 hx with hx|hx
  ·exact av x hx
  ·exact ab x (og hx)
theorem a8q{c bX v:List AV}{off:Nat}(h:storeCells c off v=some bX):bX.length=c.length:=by
 obtain⟨_,rfl⟩:=Ct h;simp;omega
theorem TK:∀(l:List Value) (k off:Nat) (cs:Array Value),(l.zipIdx k).foldl (λ(cs:Array Value) (p:Value×Nat)=>cs.setIfInBounds (off+p.2) p.1) cs=wr cs (off+k) l
 |[],_,_,_=>rfl
 |v::r,k,off,cs=>by
  rw[List.zipIdx_cons,List.foldl_cons,TK r (k+1) off,wr];rfl
theorem LA{v:AV}{u:Value}(h:R w m O B v u)(av:v.val=true):∀x∈v.cells,conf none x=true:=by
 cases h with
 |ah an al hf=>exact hf
 |a9 an al=>simp[AV.val] at av
 |_=>intro x hx;simp only[AV.cells,cu] at hx;subst hx;rfl
theorem a8r(ar:aI->Option AV)(bS:Nat->Nat->Nat)(c:List AV):h4 ar bS [] c=some c:=rfl
theorem layParts_cons(ar:aI->Option AV)(bS:Nat->Nat->Nat)(p:Nat×Nat×aI)(aE:List (Nat×Nat×aI))(c:List AV):
  h4 ar bS (p::aE) c=match ar p.2.2 with
   |none=>none
   |some v=>cond (Nat.beq v.cells.length p.2.1&&v.val) (match storeCells c (bS p.1 p.2.1) v.cells with|none=>none|some c=>h4 ar bS aE c) none:=rfl
theorem CB{place:Nat->Option (Nat×Nat)}{ar:aI->Option AV}{bS:Nat->Nat->Nat}:∀(aE:List (Nat×Nat×aI)) (iC:List (Nat×Value)) (c bX:List AV) (arr:Array Value),
  iR (λ(p:Nat×Nat×aI) (q:Nat×Value)=>place q.1=some (bS p.1 p.2.1,p.2.1)/\∀v,ar p.2.2=some v->R w m O B v q.2) aE iC->bK w m O B c arr.toList->(∀x∈c,conf none x=true)->h4 ar bS aE c=some bX→
  ∃m_,Instr.fill place arr iC=some m_/\bK w m O B bX m_.toList/\(∀x∈bX,conf none x=true)/\bX.length=c.length
 |[],[],c,bX,arr,_,ab,hf,h=>by
  rw[a8r] at h;cases h;exact⟨arr,rfl,ab,hf,rfl⟩
 |[],_::_,_,_,_,h,_,_,_=>h.elim
 |_::_,[],_,_,_,h,_,_,_=>h.elim
 |p::aE,q::iC,c,bX,arr,⟨⟨au,av⟩,al⟩,ab,hf,h=>by
  rw[layParts_cons] at h;cases he:ar p.2.2 with
  |none=>simp[he] at h
  |some v=>
   simp only[he] at h;cases hb:(Nat.beq v.cells.length p.2.1&&v.val) with
   |false=>simp[hb] at h
   |true=>
    rw[hb,cond_true] at h;simp only[du] at hb;have hlen:=fX hb.1;have hR:=av v he;cases cn:storeCells c (bS p.1 p.2.1) v.cells with
    |none=>simp[cn] at h
    |some gC=>
     simp only[cn] at h;have cv:q.2.cells.size=p.2.1:=by have:=hR.cells.1;simp at this;omega
     have TL:=(Ct cn).1;have uw:arr.size=c.length:=by have:=ab.1;simpa using this
     obtain⟨m_,h1,h2,h3,aQ⟩:=CB aE iC gC bX (wr arr (bS p.1 p.2.1) q.2.cells.toList) al (ab.store hR.cells cn) (a8p hf (LA hR hb.2) cn) h;refine⟨m_,?_,h2,h3,by rw[aQ,a8q cn]⟩;obtain⟨i,u⟩:=q;simp only[Instr.fill];rw[show place i=some (bS p.1 p.2.1,p.2.1) from au];simp only at cv ⊢;have f_:(u.cells.size≠p.2.1||decide (bS p.1 p.2.1+u.cells.size > arr.size))=false:=by
      simp[cv];omega
     have TM:(u.cells.zipIdx.foldl (λ(cs:Array Value) (x:Value×Nat)=>cs.setIfInBounds (bS p.1 p.2.1+x.2) x.1) arr)=wr arr (bS p.1 p.2.1) u.cells.toList:=by
      rw[<-Array.foldl_toList,Array.toList_zipIdx,TK];rfl
     have a8s:¬((u.cells.size≠p.2.1||bS p.1 p.2.1+u.cells.size > arr.size)=true):=by rw[qa];simp[cv];omega
     rw[if_neg a8s]
     first|(rw[TM];exact h1)|(simp only[TM];exact h1)
theorem a8t{a8:Array Field}(h:∀f∈a8.toList,∃i,P.info? f.type=some i)(w:World):
  ∃aE:Array (Nat×Nat),(a8.mapM λf=>(do pure (f.offset,← sizeOf f.type):Sem (Nat×Nat))).run P w= .ok aE w/\∀(i:Nat) (f:Field) (inf:TypeInfo),a8[i]? =some f->P.info? f.type=some inf->aE[i]? =some (f.offset,inf.size):=by
 have key:∀(l:List Field),(∀f∈l,∃i,P.info? f.type=some i)->∃aE:List (Nat×Nat),(l.mapM λf=>(do pure (f.offset,← sizeOf f.type):Sem (Nat×Nat))).run P w= .ok aE w/\∀(i:Nat) (f:Field) (inf:TypeInfo),l[i]? =some f->P.info? f.type=some inf->aE[i]? =some (f.offset,inf.size):=by
  intro l
  induction l with
  |nil=>intro _;exact⟨[],aG,λi f inf h=>by simp at h⟩
  |cons f l aH=>
   intro h;obtain⟨i,hi⟩:=h f aG;obtain⟨aE,h1,h2⟩:=aH (λg hg=>h g (by simp[hg]));have cv:(sizeOf f.type).run P w= .ok i.size w:=by simp[sizeOf,typeInfo,hi]
   refine⟨(f.offset,i.size)::aE,by simp only[List.mapM_cons,eV,cv,e3,ik,h1],λk g inf hg xJ=>?_⟩;cases k with
   |zero=>simp at hg;subst hg;rw[hi] at xJ;cases xJ;rfl
   |succ k=>simp at hg ⊢;exact h2 k g inf hg xJ
 obtain⟨aE,h1,h2⟩:=key a8.toList h;refine⟨aE.toArray,?_,λi f inf hf xJ=>by simpa using h2 i f inf (by simpa using hf) xJ⟩;rw[SK];simp only[Sem.run_map,h1,e3]
theorem a8u{t:TypeId}{a8:Array Field}(hu:P.underlying t=some (.struct a8))(hi:a8.any (λf=>(P.info? f.type).isNone)=false){z:List AV}(bb:zeroOf P t=some (.ah z)){ar:aI->Option AV}
  {aE:List (Nat×Nat×aI)} {iC:Array (Nat×Value)} {c:List AV}
  (au:iR (λ(p:Nat×Nat×aI) (q:Nat×Value)=>(∃aa,fieldOf P t q.1=some (p.1,aa)/\shN aa=p.2.1)/\∀v,ar p.2.2=some v->R w m O B v q.2) aE iC.toList)
  (h:h4 ar (λoff _=>off) aE z=some c):∃u,(Instr.build t iC).run P w= .ok u w/\R w m O B (.ah c) u:=by
 have hall:∀f∈a8.toList,∃i,P.info? f.type=some i:=by
  intro f hf;rw[<-Array.any_toList,List.any_eq_false] at hi;have:=hi f hf;cases h:P.info? f.type with
  |none=>simp[h] at this
  |some i=>exact⟨i,rfl⟩
 obtain⟨places,kM,a8v⟩:=a8t hall w;obtain⟨eI,ir,mC,mD⟩:=rz bb w;obtain⟨fa,rfl,na,LB⟩:=(mC w m O B).qk;have ql:iR (λ(p:Nat×Nat×aI) (q:Nat×Value)=>places[q.1]? =some (p.1,p.2.1)/\∀v,ar p.2.2=some v->R w m O B v q.2) aE iC.toList:=by
  clear h;revert au;generalize iC.toList=gS
  induction aE generalizing gS with
  |nil=>cases gS<;>exact id
  |cons p aE aH=>
   cases gS with
   |nil=>exact id
   |cons q gS=>
    rintro⟨⟨⟨aa,hf,h6⟩,av⟩,al⟩;refine⟨⟨?_,av⟩,aH gS al⟩;obtain⟨gR,rA,sX,ef,LC,an,_⟩:=Lx hf;rw[hu] at sX;cases sX;obtain⟨_,_,inf,xJ,cv⟩:=k4 an w;rw[a8v q.1 rA inf ef xJ,LC,cv,h6]
 obtain⟨m_,h1,h2,h3,_⟩:=CB aE iC.toList z c fa ql na LB h;refine⟨.agg m_,?_,by have:=R.m8 h2 h3;simpa using this⟩;simp only[Instr.build,eV,ir,e3,run_underlying hu,Value.cells,kM];simp[h1]
theorem a8w{t e:TypeId}{n:Nat}{aa:Option Nat}(hu:P.underlying t=some (.array n e))(an:shapeOf P e=some aa){z:List AV}(bb:zeroOf P t=some (.ah z)){ar:aI->Option AV}
  {aE:List (Nat×Nat×aI)} {iC:Array (Nat×Value)} {c:List AV}
  (au:iR (λ(p:Nat×Nat×aI) (q:Nat×Value)=>(p.1=q.1*shN aa/\p.2.1=shN aa)/\∀v,ar p.2.2=some v->R w m O B v q.2) aE iC.toList)
  (h:h4 ar (λoff _=>off) aE z=some c):∃u,(Instr.build t iC).run P w= .ok u w/\R w m O B (.ah c) u:=by
 obtain⟨_,cv,_⟩:=k4 an w;obtain⟨eI,ir,mC,mD⟩:=rz bb w;obtain⟨fa,rfl,na,LB⟩:=(mC w m O B).qk;have ql:iR (λ(p:Nat×Nat×aI) (q:Nat×Value)=>(λi=>some (i*shN aa,shN aa)) q.1=some (p.1,p.2.1)/\∀v,ar p.2.2=some v->R w m O B v q.2) aE iC.toList:=by
  clear h;revert au;generalize iC.toList=gS
  induction aE generalizing gS with
  |nil=>cases gS<;>exact id
  |cons p aE aH=>
   cases gS with
   |nil=>exact id
   |cons q gS=>
    rintro⟨⟨⟨h1,h2⟩,av⟩,al⟩;exact⟨⟨by rw[h1,h2],av⟩,aH gS al⟩
 obtain⟨m_,h1,h2,h3,_⟩:=CB (place:=λi=>some (i*shN aa,shN aa)) (bS:=λoff _=>off) aE iC.toList z c fa ql na LB h;refine⟨.agg m_,?_,by have:=R.m8 h2 h3;simpa using this⟩;simp only[Instr.build,eV,ir,e3,run_underlying hu,Value.cells,cv];simp[h1]
theorem TN(z:List AV):g2 0 z=[]:=rfl
theorem TO(n:Nat)(z:List AV):g2 (n+1) z=z++g2 n z:=rfl
theorem zI{z:List AV}{fa:List Value}(bb:bK w m O B z fa):∀n,bK w m O B (g2 n z) ((List.range (n*fa.length)).map λi=>fa[i%fa.length]!)
 |0=>by simp[TN];exact bK.nil
 |n+1=>by
  rw[TO,jL,qb,uf,List.range_add,g_,mm];have aH:=zI bb n;by_cases h0:fa.length=0
  ·have:fa=[]:=oi h0;subst this;have a8x:z=[]:=oi (by have:=bb.1;simpa using this.symm);subst a8x;simpa using aH
  ·refine bK.append ?_ ?_
   ·have:((List.range fa.length).map λi=>fa[i%fa.length]!)=fa:=by
     apply xu
     ·simp
     ·intro i h1 h2;simp only[e_,qc];rw[Nat.mod_eq_of_lt h2];simp[h2]
    rw[this];exact bb
   ·have:((λi=>fa[i%fa.length]!)∘λx=>fa.length+x)=λi=>fa[i%fa.length]! :=by
     funext i;simp
    rw[this];exact aH
theorem zJ{z:List AV}(bb:∀x∈z,conf none x=true):∀n,∀x∈g2 n z,conf none x=true
 |0,x,hx=>by simp[TN] at hx
 |n+1,x,hx=>by
  rw[TO] at hx;rcases eP.1 hx with h|h
  ·exact bb x h
  ·exact zJ bb n x h
end
section
variable {P:Program}{J:ae}{w:World}{m:Nat->Option Nat}{B:Nat}{f:Nat}
theorem a8y(al:Rel P J w m B){t e:TypeId}{aa:Option Nat}(hu:P.underlying t=some (.slice e))(an:shapeOf P e=some aa){z:AV}(bb:zeroOf P e=some z)(vN:z.cells.length=shN aa){n:Nat}(hn:n*shN aa<=16777216){ar:aI->Option AV}
  {aE:List (Nat×Nat×aI)} {iC:Array (Nat×Value)} {c:List AV}
  (au:iR (λ(p:Nat×Nat×aI) (q:Nat×Value)=>(p.1=q.1/\p.2.1=shN aa)/\∀v,ar p.2.2=some v->R w m (bp J m) B v q.2) aE iC.toList)
  (h:h4 ar (λi bS=>i*bS) aE (g2 n z.cells)=some c):
  ∃cj aw aW,(Instr.buildSlice t n iC).run P w= .ok cj aw/\R aw aW (bp (J.push (.cells c)) aW) B (.ao J.next 0 n aa (some n)) cj/\Rel P (J.push (.cells c)) aw aW B/\Ext f J w m (J.push (.cells c)) aw aW:=by
 obtain⟨_,cv,_⟩:=k4 an w;obtain⟨eI,ir,mC,mD⟩:=rz bb w;have na:=(mC w m (bp J m) B).cells;have l6:eI.cells.size=shN aa:=by have:=na.1;simp at this;omega
 have ql:iR (λ(p:Nat×Nat×aI) (q:Nat×Value)=>(λi=>some (i*shN aa,shN aa)) q.1=some (p.1*p.2.1,p.2.1)/\∀v,ar p.2.2=some v->R w m (bp J m) B v q.2) aE iC.toList:=by
  clear h;revert au;generalize iC.toList=gS
  induction aE generalizing gS with
  |nil=>cases gS<;>exact id
  |cons p aE aH=>
   cases gS with
   |nil=>exact id
   |cons q gS=>
    rintro⟨⟨⟨h1,h2⟩,av⟩,al⟩;exact⟨⟨by rw[h1,h2],av⟩,aH gS al⟩
 have nI:=zI na n;have LD:=zJ mD n;have vO:eI.cells.toList.length=shN aa:=by simp[l6]
 rw[vO] at nI;obtain⟨m_,h1,h2,h3,aQ⟩:=CB (place:=λi=>some (i*shN aa,shN aa)) aE iC.toList (g2 n z.cells) c ((Array.range (n*shN aa)).map λi=>eI.cells.toList[i%shN aa]!) ql
  (by simpa [xv] using nI) LD h
 obtain⟨aw,aW,iq,l4,ow,ux,CC⟩:=Gd al f (el:=e) h2 h3;have zK:m_.size=n*shN aa:=by
  have a2:=h2.1;have bm:=nI.1;simp at a2 bm;omega
 refine⟨.slice (some ⟨w.heap.size,0,none⟩) n n,aw,aW,?_,.ao l4 (br _) (λc ab=>by cases ab;rfl) (n:=m_.size) (by unfold eD;rw[ow]) U,ux,CC⟩;have LF:¬(n*shN aa > 2^24):=by omega
 simp only[Instr.buildSlice,eV,run_underlying hu,e3,cv];rw[if_neg LF];by_cases h0:n*shN aa=0
 ·have aR:((Array.range (n*shN aa)).map λi=>eI.cells.toList[i%shN aa]!)= #[]:=by rw[h0];apply m3;simp
  rw[aR] at h1;rw[if_pos h0];simp only[eV,ik,e3,h0];have c0:((Array.range 0).map λx=>(#[]:Array Value)[x%(#[]:Array Value).size]!)= #[]:=by apply m3;simp
  rw[c0,h1];simp[iq]
 ·have aR:((Array.range (n*shN aa)).map λi=>eI.cells.toList[i%shN aa]!)=((Array.range (n*shN aa)).map λi=>eI.cells[i%eI.cells.size]!):=by
   apply m3;simp only[ug,xv];apply uc;intro a _;rw[l6,K9,qd];simp
  rw[aR] at h1;simp only[h0,if_false,eV,ir,e3,ik];simp only[h1];simp[iq]
end
section
variable {P:Program}{w:World}{m:Nat->Option Nat}{O:Nat->Prop}{B:Nat}
theorem TP{aa hz:Option Nat}{v:AV}(h:conf aa v=true)(h':conf hz v=true):aa=hz:=by
 cases aa<;>cases hz<;>cases v<;>simp[conf] at h h'<;>first|rfl|(subst h;simp_all)
theorem a8z(aa:Option Nat)(c:List AV):elems aa 0 c=some []:=rfl
theorem elems_succ(aa:Option Nat)(n:Nat)(c:List AV):elems aa (n+1) c=match dU aa c with
 |none=>none
 |some v=>match elems aa n (c.drop (shN aa)) with|none=>none|some bo=>some (v::bo):=rfl
theorem zL{aa:Option Nat}:∀ {n:Nat} {c:List AV} {bo:List AV},(∀x∈c,conf none x=true)->elems aa n c=some bo→
  bo.length=n/\bo.flatMap AV.cells=c.take (n*shN aa)/\n*shN aa<=c.length/\∀v∈bo,conf aa v=true
 |0,c,bo,_,h=>by rw[a8z] at h;cases h;simp
 |n+1,c,bo,hf,h=>by
  rw[elems_succ] at h;split at h<;>try (cases h;done)
  rename_i v av;split at h<;>cases h;rename_i sU nG;obtain⟨h1,h2,h3,aQ⟩:=zL (λx hx=>hf x (og hx)) nG;obtain⟨bF,cw⟩:=Tz av hf;refine⟨by simp[h1],?_,?_,?_⟩
  ·rw[lC,h2,bF,jL,qb,uf (n*shN aa),List.take_add]
  ·simp at h3;rw[jL];omega
  ·intro bM nJ;rcases dF.1 nJ with rfl|eL
   ·exact a7R av hf
   ·exact aQ bM eL
theorem a8A{xs:List AV}(h:∀v∈xs,∀x∈v.cells,conf none x=true):∀x∈xs.flatMap AV.cells,conf none x=true:=by
 intro x hx;obtain⟨v,av,hx⟩:=zu.1 hx;exact h v av x hx
theorem uA{aa:Option Nat}{v:AV}(h:conf aa v=true):v.cells.length=shN aa:=by
 cases aa with
 |none=>cases v<;>simp[conf] at h<;>rfl
 |some n=>cases v<;>simp[conf] at h;exact h
theorem TQ{aa:Option Nat}{aF:Nat}:∀ {xs:List AV} {off:Nat} (ba:Nat->Nat->Value),(∀i (h:i<xs.length),conf aa (xs[i])=true)→
  (∀i (h:i<xs.length),∀j,j<(xs[i]).cells.length->w.cell? ⟨aF,off+i*shN aa+j,none⟩=some (ba i j))→
  (∀i (h:i<xs.length),∀j (aC:j<(xs[i]).cells.length),R w (λ_=>none) O B ((xs[i]).cells[j]) (ba i j))→
  ∃us,bK w m O B (xs.flatMap AV.cells) us/\us.length=xs.length*shN aa/\∀j u,us[j]? =some u->w.cell? ⟨aF,off+j,none⟩=some u
 |[],off,ba,_,_,_=>⟨[],bK.nil,aG,λj u h=>by simp at h⟩
 |x::xs,off,ba,an,ab,al=>by
  have hx:=an 0 aG;have hlen:=uA hx;simp only[Ce] at hlen;obtain⟨us,h1,h2,h3⟩:=TQ (off:=off+shN aa) (xs:=xs) (λi j=>ba (i+1) j) (λi h=>an (i+1) (by simpa using h))
   (λi h j aC=>by have:=ab (i+1) (by simpa using h) j (by simpa using aC);rw[<-this];congr 2;rw[jL];omega)
   (λi h j aC=>al (i+1) (by simpa using h) j aC)
  refine⟨(List.range x.cells.length).map (ba 0)++us,?_,?_,?_⟩
  ·rw[lC];refine bK.append ⟨aG,λi a2 bm=>?_⟩ h1;have:=(al 0 aG i (by simpa using a2)).up (m:=m);simpa using this
  ·simp[h2,hlen,jL];omega
  ·intro j u hu;rw[Cb] at hu;simp only[b0,lZ] at hu;split at hu
   ·rename_i aC;have:=ab 0 aG j (by simpa using aC);simp[aC] at hu;subst hu;simpa using this
   ·rename_i aC;have:=h3 _ u hu;rw[<-this];congr 2;omega
end
section
variable {P:Program}{J:ae}{w:World}{m:Nat->Option Nat}{B:Nat}{f:Nat}
theorem CD(al:Rel P J w m B){x:AV}{u:Value}{xs:List AV}{aa:Option Nat}(hx:R w m (bp J m) B x u)(h:readList J x=some xs)(ab:∀a∈xs,conf aa a=true):
  ∃base c us,u= .slice base xs.length c/\xs.length<=c/\bK w m (bp J m) B (xs.flatMap AV.cells) us/\us.length=xs.length*shN aa/\(∀y∈xs.flatMap AV.cells,conf none y=true)∧
   (match base with|none=>xs=[]/\c=0|some a=>(xs≠[]->a.spot=none)/\(∀j v,us[j]? =some v->w.cell? (a.add j)=some v)/\(xs≠[]->a.block<w.heap.size)):=by
 unfold readList at h;split at h
 ·cases h;cases hx;exact⟨none,0,[],rfl,br _,bK.nil,aG,λy hy=>by simp at hy,rfl,rfl⟩
 ·rename_i c5z hz c5A;cases h;cases hx with
  |lD=>exact⟨none,0,[],rfl,br _,bK.nil,aG,λy hy=>by simp at hy,rfl,rfl⟩
  | @a_ _ _ _ _ _ _ aF off fZ sp ba cp an nK iA hl hf fu=>
   by_cases he:xs=[]
   ·subst he;exact⟨some ⟨aF,off,sp⟩,fZ,[],rfl,aG,bK.nil,aG,λy hy=>by simp at hy,λh=>absurd I h,λj v h=>by simp at h,λh=>absurd I h⟩
   ·have:hz=aa:=by
     have h0:0<xs.length:=oj.2 he;exact TP (an 0 h0) (ab _ (bJ h0))
    subst this;obtain⟨us,h1,h2,h3⟩:=TQ ba an nK iA;obtain rfl:=fu he;exact⟨some ⟨aF,off,none⟩,fZ,us,rfl,hl,h1,h2,a8A hf,λ_=>rfl,λj v av=>by rw[k5];exact h3 j v av,λa5=>(cp a5).2.1⟩
 ·rename_i id off len hz cap;split at h<;>try (cases h;done)
  rename_i c hg;cases hx with
  | @ao _ _ _ _ _ _ aF n fZ _ _ hm hl hk hn mw=>
   obtain⟨arr,el,bt,hh,nK,uw,bb,kK⟩:=al.cells hm hg;obtain⟨h1,h2,h3,aQ⟩:=zL (λx hx=>kK x (og hx)) h;have a8B:xs≠[]->hz=aa:=λhe=>by
    have h0:0<xs.length:=oj.2 he;exact TP (aQ _ (bJ h0)) (ab _ (bJ h0))
   have hmul:len*shN hz=len*shN aa:=by
    by_cases he:xs=[]
    ·subst he;simp at h1;subst h1;simp
    ·rw[a8B he]
   refine⟨some ⟨aF,off,none⟩,fZ,((arr.toList.take c.length).drop off).take (len*shN aa),by rw[h1],U,?_,?_,?_,λ_=>rfl,?_,λ_=>zE hh⟩
   ·rw[h2,hmul];exact(nK.drop off).take _
   ·simp at h3 ⊢;rw[h1];omega
   ·rw[h2];exact λy hy=>kK y (og (pa hy))
   ·intro j v av;rw[k5,zF hh];obtain⟨aC,nJ⟩:=fC.1 av;simp at aC;rw[<-nJ];simp
 ·cases h
theorem a8C(l:List Nat):(l.map λc=>AV.i .u8 (Int.ofNat c)).flatMap AV.cells=l.map λc=>AV.i .u8 (Int.ofNat c):=by
 induction l with
 |nil=>rfl
 |cons a l aH=>rw[pb,lC,aH];rfl
theorem a8D(al:Rel P J w m B){x:AV}{u:Value}{xs:List AV}{aa:Option Nat}{oz:TypeId}(ay:(∃dS,P.underlying oz=some (.slice dS))\/P.underlying oz=some .string)(hx:R w m (bp J m) B x u)
  (h:newOf J x=some xs) (ab:∀a∈xs,conf aa a=true):
  ∃us,bK w m (bp J m) B (xs.flatMap AV.cells) us/\us.length=xs.length*shN aa/\(∀y∈xs.flatMap AV.cells,conf none y=true)/\Src P (shN aa) oz u xs.length us w:=by
 have one:∀ {us:List Value},bK w m (bp J m) B (xs.flatMap AV.cells) us->(∀y∈xs.flatMap AV.cells,conf none y=true)->∀u∈us,u.oneCell'=true:=λ{us} h1 h2 u hu=>by
  obtain⟨i,hi,rfl⟩:=jw hu;have dc:i<(xs.flatMap AV.cells).length:=by rw[<-h1.1];exact hi
  exact(h1.2 i dc hi).Ti (h2 _ (bJ dc))
 unfold newOf at h;split at h
 ·rename_i l;cases h;obtain⟨rfl,hl⟩:=hx.pg;have zM:(l.map λc=>AV.i .u8 (Int.ofNat c)).flatMap AV.cells=l.map λc=>AV.i .u8 (Int.ofNat c):=a8C l;have cv:l≠[]->shN aa=1:=λa5=>by
   cases l with
   |nil=>exact absurd I a5
   |cons a l=>
    have:=ab (.i .u8 (Int.ofNat a)) aG;cases aa with
    |none=>rfl
    |some n=>simp[conf] at this
  have Gi:byteCells (strOf l)=l.map λc=>Value.int .u8 (Int.ofNat c):=by
   unfold byteCells;rw[Tp,mm];apply uc;intro c zN;have:c<256:=hl c zN;simp;omega
  have zO:bK w m (bp J m) B ((l.map λc=>AV.i .u8 (Int.ofNat c)).flatMap AV.cells) (byteCells (strOf l)):=by
   rw[zM,Gi];exact⟨aG,λi h1 h2=>by simpa using R.i _ _⟩
  have TR:∀y∈(l.map λc=>AV.i .u8 (Int.ofNat c)).flatMap AV.cells,conf none y=true:=by
   rw[zM];intro y hy;obtain⟨c,_,rfl⟩:=dx.1 hy;rfl
  have hlen:(byteCells (strOf l)).length=(l.map λc=>AV.i .u8 (Int.ofNat c)).length*shN aa:=by
   rw[Gi];by_cases he:l=[]
   ·subst he;simp
   ·rw[cv he];simp
  refine⟨byteCells (strOf l),zO,hlen,TR,⟨ay,λaw=>?_,?_,?_,hlen,one zO TR⟩⟩
  ·simp[Builtin.lenOf,vK]
  ·have:(l.map λc=>AV.i .u8 (Int.ofNat c)).length=(strOf l).size:=by simp[vK]
   rw[this];have:=firstCells_string (P:=P) (strOf l) w;simpa [Builtin.firstCells] using this
  ·have:(l.map λc=>AV.i .u8 (Int.ofNat c)).length=(strOf l).size:=by simp[vK]
   rw[this];have:=firstCells_string (P:=P) (strOf l) w.drew;simpa [Builtin.firstCells] using this
 ·obtain⟨base,c,us,rfl,hle,h1,h2,h3,aQ⟩:=CD al hx h ab;refine⟨us,h1,h2,h3,⟨ay,λ_=>rfl,?_,?_,h2,one h1 h3⟩⟩
  ·cases base with
   |none=>obtain⟨rfl,_⟩:=aQ;have:us=[]:=oi (by simpa using h2);subst this;exact run_firstCells_none w _ _ _ _
   |some a=>exact run_firstCells_some w _ _ a _ _ us h2 aQ.2.1
  ·cases base with
   |none=>obtain⟨rfl,_⟩:=aQ;have:us=[]:=oi (by simpa using h2);subst this;exact run_firstCells_none w.drew _ _ _ _
   |some a=>exact run_firstCells_some w.drew _ _ a _ _ us h2 (by simpa using aQ.2.1)
theorem LG(al:Rel P J w m B)(f:Nat){t oz ty e:TypeId}{i:TypeInfo}{z:Value}{aa:Option Nat}(ht:P.underlying t=some (.slice e))(hi:P.info? e=some i)(cv:i.size=shN aa)(bb:i.zero=some z)(l6:z.cells.size=shN aa)
  (xK:i.bytes≠0) {base:Option Addr} {jy qm n:Nat} {sZ s0:List AV} {olds news:List Value} {x:Value} (ho:bK w m (bp J m) B sZ olds) (qn:olds.length=jy*shN aa) (a8E:∀y∈sZ,conf none y=true)
  (kK:(Builtin.firstCells (shN aa) jy (.slice base jy qm)).run P w.drew= .ok olds.toArray w.drew)
  (hn:bK w m (bp J m) B s0 news) (vP:news.length=n*shN aa) (a8F:∀y∈s0,conf none y=true) (an:Src P (shN aa) oz x n news w) (hg:qm<jy+n)
  (hb:(3*(jy+n)+2000)*i.bytes<=281474976710656):
  ∃u aw aW,(Builtin.append_ #[t,oz] ty #[.slice base jy qm,x]).run P w= .ok u aw/\R aw aW (bp (J.push (.cells (sZ++s0))) aW) B (.ao J.next 0 (jy+n) aa none) u∧
   Rel P (J.push (.cells (sZ++s0))) aw aW B/\Ext f J w m (J.push (.cells (sZ++s0))) aw aW:=by
 have kb:1<=i.bytes:=SL.2 xK;have k6:(3*(jy+n)+2000)*1<=(3*(jy+n)+2000)*i.bytes:=SM _ kb;have s3:2*((jy+n)*i.bytes)<=(3*(jy+n)+2000)*i.bytes:=by
  rw[<-Nat.mul_assoc];exact rk _ U
 have cb:=run_append_grow_src (P:=P) w t oz ty e i z ht hi bb base jy qm olds (by rw[cv];exact kK) x n news (by rw[cv];exact an) hg U (growslice_fits hg U);have mE:=grownCap_ge w (jy+n) qm e;have gq:=ho.1;have pj:=hn.1;have a8G:sZ.length=jy*shN aa:=by omega
 have a8H:s0.length=n*shN aa:=by omega
 have vQ:((olds++news).toArray++Builtin.zeroCells z.cells (grownCap w (jy+n) qm e-(jy+n))).size=grownCap w (jy+n) qm e*shN aa:=by
  simp only[SN,List.size_toArray,size_zeroCells,l6,c4,qn,vP,← jL]
  congr 1;omega
 obtain⟨h1,h2⟩:=al.alloc f (w.drew.alloc (.cells ((olds++news).toArray++Builtin.zeroCells z.cells (grownCap w (jy+n) qm e-(jy+n))) e)) (.cells (sZ++s0)) _ I I I I I
  (.cells (by rw[vQ,c4,a8G,a8H,← jL];exact rk _ mE) (λj h h'=>by
   have aC:j<(olds++news).length:=by simp only[c4] at h ⊢;omega
   have:=(ho.append hn).2 j h aC;rw[SO (by simpa using aC)];simpa using this) (λj _=>by simp) (λy hy=>(eP.1 hy).elim (a8E y) (a8F y)))
 refine⟨_,_,_,cb,.ao (hD _ _ _) mE (λc ab=>by cases ab) (n:=grownCap w (jy+n) qm e*shN aa) ?_ U,h1,h2⟩;have:(w.drew.alloc (.cells ((olds++news).toArray++Builtin.zeroCells z.cells (grownCap w (jy+n) qm e-(jy+n))) e)).heap[w.heap.size]? =some (.cells ((olds++news).toArray++Builtin.zeroCells z.cells (grownCap w (jy+n) qm e-(jy+n))) e):=by
  exact heap_alloc_new w.drew _
 unfold eD;rw[this];simp only[vQ]
end
theorem nL{α:Type}{p:α->Bool}:∀ {l:List α},cP p l=true->∀x∈l,p x=true
 |[],_,x,hx=>by simp at hx
 |y::l,h,x,hx=>by
  have h':cond (p y) (cP p l) false=true:=h;cases hy:p y with
  |false=>rw[hy] at h';cases h'
  |true=>
   rw[hy] at h';rcases dF.1 hx with rfl|hx
   ·exact hy
   ·exact nL h' x hx
theorem a8I{b:Bool}(h:¬b=true):b=false:=by cases b<;>simp at h<;>rfl
section
variable {P:Program}{J:ae}{w:World}{m:Nat->Option Nat}{B:Nat}{f:Nat}
theorem a8J(al:Rel P J w m B){t oz ty e:TypeId}{i:TypeInfo}{vR:Value}{aa:Option Nat}(ht:P.underlying t=some (.slice e))(hi:P.info? e=some i)(cv:i.size=shN aa)(bb:i.zero=some vR)(l6:vR.cells.size=shN aa)
  (xK:i.bytes≠0) (ay:(∃dS,P.underlying oz=some (.slice dS))\/P.underlying oz=some .string) {s x:AV} {us CE:Value} (an:R w m (bp J m) B s us) (hx:R w m (bp J m) B x CE)
  {v:AV} {ag:ae} (h:appendO f J aa i.bytes s x=some (v,ag)):
  ∃u aw aW,(Builtin.append_ #[t,oz] ty #[us,CE]).run P w= .ok u aw/\R aw aW (bp ag aW) B v u/\Rel P ag aw aW B/\Ext f J w m ag aw aW:=by
 unfold appendO at h;split at h<;>try (cases h;done)
 rename_i old new hold jx;cases hb:(cP (conf aa) old&&cP (conf aa) new&&Nat.ble ((3*(old.length+new.length)+2000)*i.bytes) 281474976710656) with
 |false=>rw[hb] at h;cases h
 |true=>
  rw[hb,cond_true] at h;simp only[du] at hb;obtain⟨⟨kb,k6⟩,s3⟩:=hb;have LH:=gB s3;obtain⟨news,iD,h8,pk,zP⟩:=a8D al ay hx jx (nL k6);obtain⟨base,c,olds,rfl,eg,nM,pn,LI,LJ⟩:=CD al an hold (nL kb);have kK:(Builtin.firstCells (shN aa) old.length (.slice base old.length c)).run P w.drew= .ok olds.toArray w.drew:=by
   cases base with
   |none=>obtain⟨rfl,_⟩:=LJ;have:olds=[]:=oi (by simpa using pn);subst this;exact run_firstCells_none w.drew _ _ _ _
   |some a=>exact run_firstCells_some w.drew _ _ a _ _ olds pn (by simpa using LJ.2.1)
  split at h
  ·-- nothing
   cases h;have vP:news=[]:=oi (by simpa using h8);subst vP;exact⟨_,w,m,run_append_nothing (P:=P) w t oz ty e i ht hi base old.length c eg CE (by rw[cv];exact zP),an,al,Ext.refl _ _ _ _⟩
  ·rename_i zQ TS;generalize zR:zQ::TS=new at *;have LK:0<new.length:=by rw[<-zR];simp
   clear zR zQ TS;split at h<;>try (cases h;done)
   ·-- a row of uk store
    rename_i id off len hz cap;split at h<;>try (cases h;done)
    rename_i h6;subst h6;have c5B:=an;generalize lH:Value.slice base old.length c=us at an;cases an with
    | @ao _ _ _ _ _ _ aF po fZ _ _ hm hl hk hn mw=>
    cases lH;have TT:∀sP,J.get id=some (.cells sP)->live J id:=λsP hg=>⟨_,hg,rfl⟩
    obtain⟨sP,hg⟩:∃sP,J.get id=some (.cells sP):=by
     simp only[readList] at hold;split at hold
     ·exact⟨_,by assumption⟩
     ·cases hold
    obtain⟨arr,el,bt,hh,nK,uw,LL,a8K⟩:=al.cells hm hg;have CF:arr.size=po:=by unfold eD at hn;rw[hh] at hn;simpa using hn
    have xL:old.flatMap AV.cells=(sP.drop off).take (old.length*shN hz)/\old.length*shN hz<=(sP.drop off).length:=by
     simp only[readList,hg] at hold;obtain⟨a2,bm,cx,_⟩:=zL (λx hx=>a8K x (og hx)) hold;exact⟨bm,cx⟩
    have room:old.length+new.length<=c->(Builtin.append_ #[t,oz] ty #[.slice (some ⟨aF,off,none⟩) old.length c,CE]).run P w= .ok (.slice (some ⟨aF,off,none⟩) (old.length+new.length) c) (w.setCells aF (off+old.length*shN hz) news):=λqo=>by
     have hmul:=rk (shN hz) qo;rw[jL] at hmul;have:=run_append_room_src (P:=P) w t oz ty e i ht hi aF off old.length c CE new.length news (by rw[cv];exact zP) qo
      (λj aC=>by rw[cv,zF hh,sI U];rfl)
      (λj aC=>by rw[cv,Lt hh];exact LL _ U)
     rw[cv] at this;exact this
    split at h
    ·rename_i iS;obtain rfl:=hk iS I;cases qo:Nat.ble (old.length+new.length) c with
     |true=>
      rw[qo,cond_true] at h;have LM:=gB qo;split at h<;>try (cases h;done)
      rename_i ef;simp only[hg] at h;split at h<;>cases h;rename_i gC cn;obtain⟨aw,h2,h3,aQ⟩:=Lu (f:=f) al (by simpa [gQ] using ef) hm hg cn iD pk;have h1:∀u∈news,u.oneCell'=true:=zP.one;have hmul:=rk (shN hz) LM;rw[jL] at hmul;have cb:=run_storeCells_cells (P:=P) aF (off+old.length*shN hz) news 0 w
       (λj aC=>by rw[zF hh,sI U];rfl)
       (λj aC=>by rw[Lt hh];exact LL _ U) h1
      have hw:aw=w.setCells aF (off+old.length*shN hz) news:=by
       rw[h2] at cb;simpa using cb
      refine⟨_,aw,m,by rw[hw];exact room LM,?_,h3,aQ⟩;exact .ao (aQ.mono _ _ hm) LM (λc ab=>by cases ab;rfl) (aQ.bI _ _ hn) mw
     |false=>
      rw[qo,cond_false] at h;cases h;have uC:c<old.length+new.length:=by
       rcases nC c (old.length+new.length) with h|h
       ·exact h
       ·rw[j7 h] at qo;cases qo
      exact LG al f ht hi cv bb l6 xK nM pn LI kK iD h8 pk zP uC LH
    ·split at h<;>try (cases h;done)
     rename_i ef;have pq:f<=id:=by simpa [gQ] using ef
     split at h<;>cases h;rename_i LC;obtain rfl:=fX LC;by_cases qo:old.length+new.length<=c
     ·have hmul:=rk (shN hz) qo;rw[jL] at hmul;obtain⟨iq,l4,ow,ux⟩:=Lp news w aF (0+old.length*shN hz);have xF:=Lo news w aF (0+old.length*shN hz) arr el bt hh;have qj:(old.flatMap AV.cells).length=old.length*shN hz:=by have:=nM.1;omega
      have jz:(new.flatMap AV.cells).length=new.length*shN hz:=by have:=iD.1;omega
      have dh:=al.move pq hm (TT _ hg) (w.setCells aF (0+old.length*shN hz) news) (.cells (old.flatMap AV.cells++new.flatMap AV.cells)) I iq (λb hb=>heap_setCells_other news w aF _ b hb) (f:=f)
       (λn hn=>by unfold eD at hn ⊢;rw[hh] at hn;rw[xF];simpa [xC] using hn) l4 ow ux ⟨_,xF,?_⟩
      ·obtain⟨h3,aQ⟩:=dh;exact⟨_,_,_,room qo,.ao (hD _ _ _) qo (λc ab=>by cases ab) (aQ.bI _ _ hn) mw,h3,aQ⟩
      ·refine .cells (by rw[xC,c4,qj,jz];omega) (λj h h'=>?_) (by rw[xC];exact LL) (λy hy=>(eP.1 hy).elim (LI y) (pk y));rw[c4] at h;have xM:=Ga news arr (0+old.length*shN hz) j U;rw[sI h'] at xM;by_cases aC:j<(old.flatMap AV.cells).length
       ·rw[g9 aC];rw[if_neg U] at xM;have oA:=nM.2 j aC (by rw[nM.1];exact aC);have LN:arr[j]? =some (olds[j]'(by rw[nM.1];exact aC)):=by
         have:=LJ.2.1 j _ (cK (by rw[nM.1];exact aC));rw[k5,zF hh] at this;simpa using this
        rw[LN] at xM;rw[il xM];exact oA
       ·rw[ri U];rw[if_pos U] at xM;have hG:j-(0+old.length*shN hz)=j-(old.flatMap AV.cells).length:=by omega
        rw[hG,cK U] at xM;rw[il xM];exact iD.2 _ U _
     ·have a8L:=al.dd (f:=f) pq hm (TT _ hg) w .dead I (λ_ _=>rfl) (λ_ h=>h) I I I (λh=>by cases h);obtain⟨l7,gD⟩:=a8L;have zS:J.next=(J.set id .dead).next:=rfl;have a8M:=LG (ty:=ty) l7 f ht hi cv bb l6 xK (nM.ext gD al) pn LI kK (iD.ext gD al) h8 pk zP U LH;obtain⟨u,aw,aW,bL,bQ,cm,c7⟩:=a8M;exact⟨u,aw,aW,bL,bQ,cm,gD.trans al c7⟩
   ·cases h;have a8N:old=[]:=by simp only[readList] at hold;cases hold;rfl
    subst a8N;cases an;have h0:olds=[]:=oi (by simpa using pn);subst h0;have:=LG (ty:=ty) al f ht hi cv bb l6 xK (sZ:=[]) (olds:=[]) (jy:=0) (qm:=0) bK.nil aG (λy hy=>by simp at hy) kK iD h8 pk zP U (by simpa using LH);simpa using this
theorem Gj{b:Nat}{o:Obj}(h:w.heap[b]? =some o)(ab:∀c e z,o≠ .cells c e z):(getObj b).run P w= .ok o w:=by
 simp only[getObj,Sem.run,h]
theorem TU{b:Nat}{o:Obj}(bU:Obj)(h:w.heap[b]? =some o)(ab:∀c e z,o≠ .cells c e z):(setObj b bU).run P w= .ok () {w with heap:=w.heap.setIfInBounds b bU}:=by
 simp only[setObj,Sem.run,h]
theorem a8O{t ty n e:TypeId}(ht:P.underlying t=some (.array n e))(u:Value):(Builtin.len_ #[t] ty #[u]).run P w= .ok (.int .i64 (Int.ofNat n)) w:=by
 simp[Builtin.len_,run_underlying ht,goInt]
theorem LO(al:Rel P J w m B){t ty:TypeId}{k:Nat}(ht:(k=1/\∃e,P.underlying t=some (.slice e))\/(k=0/\P.underlying t=some .string)\/(k=2/\∃a e,P.underlying t=some (.map a e))){x:AV}{n:Nat}{u:Value}(hx:R w m (bp J m) B x u)
  (h:lenA J k x=some n):(Builtin.len_ #[t] ty #[u]).run P w= .ok (.int .i64 (Int.ofNat n)) w:=by
 unfold lenA at h;split at h
 ·cases h;obtain⟨rfl,_⟩:=hx.pg;rcases ht with⟨h,_⟩|⟨_,ht⟩|⟨h,_⟩<;>first|(cases h;done)|skip
  simp[Builtin.len_,run_underlying ht,goInt,vK]
 ·cases h;cases hx;rcases ht with⟨_,e,ht⟩|⟨h,_⟩|⟨h,_⟩<;>first|(cases h;done)|skip
  simp[Builtin.len_,run_underlying ht,goInt]
 ·cases h;cases hx;rcases ht with⟨_,e,ht⟩|⟨h,_⟩|⟨h,_⟩<;>first|(cases h;done)|skip
  simp[Builtin.len_,run_underlying ht,goInt]
 ·cases h;rcases ht with⟨_,e,ht⟩|⟨h,_⟩|⟨h,_⟩<;>first|(cases h;done)|skip
  cases hx<;>simp[Builtin.len_,run_underlying ht,goInt]
 ·cases h;cases hx;rcases ht with⟨h,_⟩|⟨h,_⟩|⟨_,a,e,ht⟩<;>first|(cases h;done)|skip
  simp[Builtin.len_,run_underlying ht,goInt]
 ·split at h<;>cases h;rename_i es aq hg;obtain⟨aF,hm,rfl⟩:=hx.Ge;obtain⟨bU,h1,h2⟩:=al.obj _ _ _ hm hg I;rcases ht with⟨h,_⟩|⟨h,_⟩|⟨_,a,e,ht⟩<;>first|(cases h;done)|skip
  cases h2 with
  |map hl _=>simp[Builtin.len_,run_underlying ht,goInt,Gj h1 (λ_ _ _ h=>by cases h),hl]
 ·cases h
theorem TV{k:Nat}{x:AV}{r:bV}(h:lenU J k x=some r):k=0/\∃ex,x= .hP ex/\r= .jM [(.im true,J),(.im false,J)]:=by
 unfold lenU at h;split at h<;>cases h;exact⟨rfl,_,rfl,rfl⟩
theorem CG{k:Nat}{x:AV}{r:bV}(h:lenU J k x=some r):r= .jM [(.im true,J),(.im false,J)]:=by
 obtain⟨_,_,_,h⟩:=TV h;exact h
theorem a8P{t ty e:TypeId}(ht:P.underlying t=some (.slice e)){x:AV}{n:Nat}{u:Value}{O:Nat->Prop}(hx:R w m O B x u)
  (h:capA x=some n):(Builtin.cap_ #[t] ty #[u]).run P w= .ok (.int .i64 (Int.ofNat n)) w:=by
 unfold capA at h;split at h<;>cases h
 ·cases hx;simp[Builtin.cap_,run_underlying ht,goInt]
 ·cases hx with
  |ao h hl ab hn mw=>
   obtain rfl:=ab _ I;simp[Builtin.cap_,run_underlying ht,goInt]
theorem TW{k:IntKind}{a b:Int}{u cj:Value}{O:Nat->Prop}(hx:R w m O B (.i k a) u)(hy:R w m O B (.i k b) cj)(t:TypeId)(k9:Array TypeId):
  (Builtin.min_ k9 t #[u,cj]).run P w= .ok (.int k (if b<a then b else a)) w/\(Builtin.max_ k9 t #[u,cj]).run P w= .ok (.int k (if b > a then b else a)) w:=by
 obtain rfl:=hx.l5;obtain rfl:=hy.l5;constructor
 ·simp[Builtin.min_,Builtin.min2]
 ·simp[Builtin.max_,Builtin.max2]
end
section
variable {P:Program}{w:World}{m:Nat->Option Nat}{O:Nat->Prop}{B:Nat}
def TX(k:Nat)(d:TypeDesc):Prop:=(k=0/\∃j,d= .int j)\/(k=1/\d= .string)\/(k=2/\d= .bool)
theorem LP{t:TypeId}{k:Nat}(h:leafKind P t=some k):∃d,P.underlying t=some d/\TX k d:=by
 unfold leafKind at h;split at h<;>cases h
 ·exact⟨_,by assumption,.inl ⟨rfl,_,rfl⟩⟩
 ·exact⟨_,by assumption,.inr (.inl ⟨rfl,rfl⟩)⟩
 ·exact⟨_,by assumption,.inr (.inr ⟨rfl,rfl⟩)⟩
theorem a8Q{x y:List Nat}(hx:∀c∈x,c<256)(hy:∀c∈y,c<256):(strOf x==strOf y)=eqL x y:=by
 rw[sJ,SJ,ox];constructor
 ·intro h;have:=congrArg ByteArray.toList h;rw[zG,zG] at this;exact Lw x y hx hy this
 ·rintro rfl;rfl
theorem xN{t:TypeId}{k:Nat}(ay:leafKind P t=some k){x y:AV}{u v:Value}{r:Bool}(hx:R w m O B x u)(hy:R w m O B y v)(h:leafEq k x y=some r):
  (∀d aw,(Op.equalIn (d+1) t u v).run P aw= .ok r aw)/\(∃d,P.underlying t=some d/\TX k d/\Instr.sameNow d u v=some r)/\(r=true->∀n,Instr.sameBits n u v=true)/\(∀e d aw,(Instr.checkKey e (d+1) t u).run P aw= .ok () aw):=by
 obtain⟨d,hd,s4⟩:=LP ay;unfold leafEq at h;split at h
 ·rename_i bG a bw b;split at h<;>cases h;rename_i rC;subst rC;obtain rfl:=hx.l5;obtain rfl:=hy.l5;rcases s4 with⟨_,j,rfl⟩|⟨h,_⟩|⟨h,_⟩<;>first|(cases h;done)|skip
  have iB:(a==b)=decide (a=b):=by rw[sJ];simp
  refine⟨λd aw=>?_,⟨_,hd,.inl ⟨rfl,j,rfl⟩,?_⟩,λal n=>?_,λe d aw=>?_⟩
  ·simp[Op.equalIn,run_underlying hd,iB]
  ·simp[Instr.sameNow,iB]
  ·simp at al;subst al;simp[Instr.sameBits]
  ·simp[Instr.checkKey,run_underlying hd]
 ·rename_i a b;cases h;obtain⟨rfl,h1⟩:=hx.pg;obtain⟨rfl,h2⟩:=hy.pg;rcases s4 with⟨h,_⟩|⟨_,rfl⟩|⟨h,_⟩<;>first|(cases h;done)|skip
  have iB:=a8Q h1 h2;refine⟨λd aw=>?_,⟨_,hd,.inr (.inl ⟨rfl,rfl⟩),?_⟩,λal n=>?_,λe d aw=>?_⟩
  ·simp[Op.equalIn,run_underlying hd,iB]
  ·simp[Instr.sameNow,iB]
  ·simp[Instr.sameBits,iB,al]
  ·simp[Instr.checkKey,run_underlying hd]
 ·rename_i a b;cases h;obtain rfl:=hx.vL;obtain rfl:=hy.vL;rcases s4 with⟨h,_⟩|⟨h,_⟩|⟨_,rfl⟩<;>first|(cases h;done)|skip
  refine⟨λd aw=>?_,⟨_,hd,.inr (.inr ⟨rfl,rfl⟩),?_⟩,λal n=>?_,λe d aw=>?_⟩
  ·simp[Op.equalIn,run_underlying hd]
  ·simp[Instr.sameNow]
  ·simp[Instr.sameBits];simpa using al
  ·simp[Instr.checkKey,run_underlying hd]
 ·rename_i ex b;cases hm:qe b ex with
  |false=>rw[hm] at h;cases h
  |true=>
   rw[hm] at h;cases h;obtain⟨s,rfl,a5⟩:=Gf hx hm;obtain⟨rfl,h2⟩:=hy.pg;rcases s4 with⟨h,_⟩|⟨_,rfl⟩|⟨h,_⟩<;>first|(cases h;done)|skip
   have iB:=Tv a5;refine⟨λd aw=>?_,⟨_,hd,.inr (.inl ⟨rfl,rfl⟩),?_⟩,λal n=>?_,λe d aw=>?_⟩
   ·simp[Op.equalIn,run_underlying hd,iB]
   ·simp[Instr.sameNow,iB]
   ·cases al
   ·simp[Instr.checkKey,run_underlying hd]
 ·rename_i a ex;cases hm:qe a ex with
  |false=>rw[hm] at h;cases h
  |true=>
   rw[hm] at h;cases h;obtain⟨s,rfl,a5⟩:=Gf hy hm;obtain⟨rfl,h2⟩:=hx.pg;rcases s4 with⟨h,_⟩|⟨_,rfl⟩|⟨h,_⟩<;>first|(cases h;done)|skip
   have iB:=Tv (p9 a5);refine⟨λd aw=>?_,⟨_,hd,.inr (.inl ⟨rfl,rfl⟩),?_⟩,λal n=>?_,λe d aw=>?_⟩
   ·simp[Op.equalIn,run_underlying hd,iB]
   ·simp[Instr.sameNow,iB]
   ·cases al
   ·simp[Instr.checkKey,run_underlying hd]
 ·cases h
theorem leafEqs_nil(l r:List AV):mq [] l r=match l,r with|[],[]=>some true|_,_=>none:=rfl
theorem leafEqs_cons(k:Nat)(bz:List Nat)(l r:List AV):mq (k::bz) l r=match l,r with
   |x::xs,y::ba=>match leafEq k x y,mq bz xs ba with|some a,some b=>some (a&&b)|_,_=>none
   |_,_=>none:=rfl
def LQ(P:Program)(i:Nat)(a8:List Field):Prop:=∀j (h:j<a8.length),(a8[j]).name≠ "_" ∧(a8[j]).offset=i+j/\shapeOf P (a8[j]).type=some none
theorem CH{t:TypeId}(an:shapeOf P t=some none){arr:Array Value}{i:Nat}{u:Value}(hu:arr[i]? =some u)(w:World):(part t arr i).run P w= .ok u w:=by
 obtain⟨h1,_⟩:=k4 an w;simp[part,h1,hu]
theorem forIn_eq{d:Nat}:∀(a8:List Field) (i:Nat) (bz:List Nat) (l r:List AV) (us bo:Array Value) (res:Bool),LQ P i a8->mapOL (λf=>leafKind P f.type) a8=some bz→
  bK w m O B l (us.toList.drop i)->bK w m O B r (bo.toList.drop i)->mq bz l r=some res->∀aw,
  (forIn a8 ((none:Option Bool),()) (λ(f:Field) (_:Option Bool×Unit)=>
      if f.name= "_" then(pure (ForInStep.yield (none,())):Sem (ForInStep (Option Bool×Unit)))
      else do
       let a <-part f.type us f.offset
       let b <-part f.type bo f.offset
       let c <-Op.equalIn (d+1) f.type a b
       if c=false then pure (ForInStep.done (some false,())) else pure (ForInStep.yield (none,())))).run P aw= .ok (if res then(none,()) else(some false,())) aw
 |[],i,bz,l,r,us,bo,res,_,ay,hl,al,h,aw=>by
  simp[mapOL] at ay;subst ay;rw[leafEqs_nil] at h;split at h<;>cases h;simp
 |f::a8,i,bz,l,r,us,bo,res,hf,ay,hl,al,h,aw=>by
  rw[mapOL] at ay;split at ay<;>cases ay;rename_i k uD gJ oy;rw[leafEqs_cons] at h;split at h<;>try (cases h;done)
  rename_i x xs y ba;split at h<;>cases h;rename_i a b ha hb;obtain⟨h1,h2,h3⟩:=hf 0 aG;simp only[Ce,sG] at h1 h2 h3;obtain⟨u,hu,jQ⟩:=hl.get (i:=0) (v:=x) I;obtain⟨v,av,LR⟩:=al.get (i:=0) (v:=y) I;rw[sH,sG,mn] at hu av;obtain⟨aR,_⟩:=xN gJ jQ LR ha;have p1:=CH h3 hu;have p2:=CH h3 av;have ry:bK w m O B xs (us.toList.drop (i+1)):=by
   have:=hl.drop 1;simpa [nD] using this
  have rD:bK w m O B ba (bo.toList.drop (i+1)):=by
   have:=al.drop 1;simpa [nD] using this
  have aH:=forIn_eq a8 (i+1) uD xs ba us bo b (λj aC=>by
   have:=hf (j+1) (by simpa using aC);simp only[FR] at this;exact⟨this.1,by rw[this.2.1];omega,this.2.2⟩) oy ry rD hb aw (d:=d)
  rw[FT];simp only[h1,if_false,eV,h2,p1,p2,e3,aR];cases a with
  |false=>simp
  |true=>simpa using aH
theorem TY{e:Bool}{d:Nat}:∀(a8:List Field) (i:Nat) (bz:List Nat) (l:List AV) (us:Array Value) (res:Bool),LQ P i a8->mapOL (λf=>leafKind P f.type) a8=some bz→
  bK w m O B l (us.toList.drop i)->mq bz l l=some res->∀aw,
  (forIn a8 PUnit.unit (λ(f:Field) (_:PUnit)=>
      if f.name≠ "_" then(do
       let a <-part f.type us f.offset
       Instr.checkKey e (d+1) f.type a
       pure (ForInStep.yield PUnit.unit):Sem (ForInStep PUnit))
      else pure (ForInStep.yield PUnit.unit))).run P aw= .ok PUnit.unit aw
 |[],i,bz,l,us,res,_,ay,hl,h,aw=>by simp
 |f::a8,i,bz,l,us,res,hf,ay,hl,h,aw=>by
  rw[mapOL] at ay;split at ay<;>cases ay;rename_i k uD gJ oy;rw[leafEqs_cons] at h;cases l with
  |nil=>cases h
  |cons x xs=>
  simp only at h;split at h<;>cases h;rename_i a b ha hb;obtain⟨h1,h2,h3⟩:=hf 0 aG;simp only[Ce,sG] at h1 h2 h3;obtain⟨u,hu,jQ⟩:=hl.get (i:=0) (v:=x) I;rw[sH,sG,mn] at hu;obtain⟨_,_,_,aR⟩:=xN gJ jQ jQ ha;have p1:=CH h3 hu;have ry:bK w m O B xs (us.toList.drop (i+1)):=by
   have:=hl.drop 1;simpa [nD] using this
  have aH:=TY (e:=e) (d:=d) a8 (i+1) uD xs us b (λj aC=>by
   have:=hf (j+1) (by simpa using aC);simp only[FR] at this;exact⟨this.1,by rw[this.2.1];omega,this.2.2⟩) oy ry hb aw
  rw[FT];simp only[h1,ne_eq,not_false_eq_true,if_true,eV,h2,p1,e3,aR,ik];exact aH
theorem TZ:∀ {bz:List Nat} {a8:List Field} {l r:List AV} {us bo:List Value},mapOL (λf=>leafKind P f.type) a8=some bz->bK w m O B l us->bK w m O B r bo->mq bz l r=some true->∀n,
  us.length=bo.length/\(us.zip bo).all (λ(x,y)=>Instr.sameBits n x y)=true
 |[],a8,l,r,us,bo,ay,hl,al,h,n=>by
  rw[leafEqs_nil] at h;split at h<;>cases h;have h1:=hl.1;have h2:=al.1;simp at h1 h2;subst h1;subst h2;simp
 |k::bz,[],l,r,us,bo,ay,hl,al,h,n=>by simp[mapOL] at ay
 |k::bz,f::a8,l,r,us,bo,ay,hl,al,h,n=>by
  rw[mapOL] at ay;split at ay<;>cases ay;rename_i gJ oy;rw[leafEqs_cons] at h;split at h<;>try (cases h;done)
  rename_i x xs y ba;split at h<;>try (cases h;done)
  rename_i a b ha hb;simp only[cJ,du] at h;obtain⟨rfl,rfl⟩:=h;obtain⟨u,Gk,rfl⟩:∃u Gk,us=u::Gk:=by cases us with|nil=>have:=hl.1;simp at this|cons u Gk=>exact⟨u,Gk,rfl⟩
  obtain⟨v,sU,rfl⟩:∃v sU,bo=v::sU:=by cases bo with|nil=>have:=al.1;simp at this|cons v sU=>exact⟨v,sU,rfl⟩
  have hu:R w m O B x u:=hl.2 0 aG aG;have av:R w m O B y v:=al.2 0 aG aG;obtain⟨_,_,kb,_⟩:=xN gJ hu av ha;obtain⟨i1,i2⟩:=TZ oy (by simpa using hl.drop 1) (by simpa using al.drop 1) hb n;exact⟨by simpa using i1,by simp only[SP,List.all_cons,kb I n,i2,K_]⟩
theorem Gl{t:TypeId}{bz:List Nat}(h:keyOk P t=some (.inr bz)):∃a8,P.underlying t=some (.struct a8)/\P.stoodInHeld t=false/\LQ P 0 a8.toList/\mapOL (λf=>leafKind P f.type) a8.toList=some bz:=by
 unfold keyOk at h;split at h
 ·cases h
 ·split at h<;>try (cases h;done)
  rename_i a8 hu;split at h<;>try (cases h;done)
  rename_i ab;simp only[du,uh,m4] at ab;cases hm:mapOL (λf=>leafKind P f.type) a8.toList with
  |none=>simp[hm] at h
  |some uD=>
   simp[hm] at h;subst h;refine⟨a8,hu,ab.1,λj aC=>?_,hm⟩;have:=ab.2 (a8.toList[j],j) (by rw[List.mem_iff_getElem];exact⟨j,by simpa using aC,aG⟩);simp only[du,decide_eq_true_eq] at this;exact⟨this.1.1,by rw[this.1.2];omega,this.2⟩
theorem Gm{t:TypeId}{k:Nat}(h:keyOk P t=some (.inl k)):leafKind P t=some k:=by
 unfold keyOk at h;split at h
 ·cases h;assumption
 ·split at h<;>try (cases h;done)
  split at h
  ·rename_i a8 _ _;cases hm:mapOL (λf=>leafKind P f.type) a8.toList with
   |none=>simp[hm] at h
   |some uD=>simp[hm] at h
  ·cases h
theorem eqStruct_run{t:TypeId}{a8:Array Field}(hu:P.underlying t=some (.struct a8))(an:P.stoodInHeld t=false)(D:Nat)(us bo:Array Value)(aw:World):
  (Op.equalIn (D+1) t (.agg us) (.agg bo)).run P aw=((forIn a8.toList ((none:Option Bool),()) (λ(f:Field) (_:Option Bool×Unit)=>
      if f.name= "_" then(pure (ForInStep.yield (none,())):Sem (ForInStep (Option Bool×Unit)))
      else do
       let a <-part f.type us f.offset
       let b <-part f.type bo f.offset
       let c <-Op.equalIn D f.type a b
       if c=false then pure (ForInStep.done (some false,())) else pure (ForInStep.yield (none,())))).run P aw).andThen (λa aw=>Sem.run P (match a.fst with|some r=>pure r|none=>pure true) aw):=by
 simp only[Op.equalIn,eV,run_underlying hu,e3];simp[an]
 congr 1
 funext a bW
 obtain⟨a,_⟩:=a;cases a<;>rfl
theorem a8R{t:TypeId}{a8:Array Field}(hu:P.underlying t=some (.struct a8))(e:Bool)(D:Nat)(us:Array Value)(aw:World):
  (Instr.checkKey e (D+1) t (.agg us)).run P aw=((forIn a8.toList PUnit.unit (λ(f:Field) (_:PUnit)=>
      if f.name≠ "_" then(do
       let a <-part f.type us f.offset
       Instr.checkKey e D f.type a
       pure (ForInStep.yield PUnit.unit):Sem (ForInStep PUnit))
      else pure (ForInStep.yield PUnit.unit))).run P aw).andThen λ_ aw=>Sem.run P (pure ()) aw:=by
 simp only[Instr.checkKey,eV,run_underlying hu,e3];rw[<-Array.forIn_toList]
theorem Gn{t:TypeId}{aa:ks}(ay:keyOk P t=some aa){x y:AV}{u v:Value}{r:Bool}(hx:R w m O B x u)(hy:R w m O B y v)(h:keyEq aa x y=some r):
  (∀aw,(Op.equal t u v).run P aw= .ok r aw)/\(r=true->Instr.sameBits 10000 u v=true):=by
 cases aa with
 |inl k=>
  obtain⟨h1,_,h2,_⟩:=xN (Gm ay) hx hy h;exact⟨λaw=>h1 9999 aw,λal=>h2 al _⟩
 |inr bz=>
  obtain⟨a8,hu,an,hf,hm⟩:=Gl ay;simp only[keyEq] at h;split at h<;>try (cases h;done)
  obtain⟨us,rfl,hl,_⟩:=hx.qk;obtain⟨bo,rfl,al,_⟩:=hy.qk;refine⟨λaw=>?_,λa8S=>?_⟩
  ·have key:∀d,(Op.equalIn (d+2) t (.agg us) (.agg bo)).run P aw= .ok r aw:=λd=>by
    have:=forIn_eq (aw:=aw) (d:=d) a8.toList 0 bz _ _ us bo r hf hm (by simpa using hl) (by simpa using al) h;rw[eqStruct_run hu an (d+1),this];cases r<;>simp
   exact key 9998
  ·subst a8S;obtain⟨h1,h2⟩:=TZ (P:=P) hm hl al h 9999;have key:∀n,Instr.sameBits (n+1) (.agg us) (.agg bo)=(us.size==bo.size&&(us.toList.zip bo.toList).all λ(x,y)=>Instr.sameBits n x y):=λn=>rfl;rw[show(10000:Nat)=9999+1 from rfl,key,h2];simpa using h1
theorem T0{t:TypeId}{aa:ks}(ay:keyOk P t=some aa){x:AV}{u:Value}{r:Bool}(hx:R w m O B x u)(h:keyEq aa x x=some r)(e:Bool)(aw:World):(Instr.checkKey e 10000 t u).run P aw= .ok () aw:=by
 cases aa with
 |inl k=>
  obtain⟨_,_,_,h1⟩:=xN (Gm ay) hx hx h;exact h1 e 9999 aw
 |inr bz=>
  obtain⟨a8,hu,an,hf,hm⟩:=Gl ay;simp only[keyEq] at h;cases x<;>simp only[reduceCtorEq] at h;obtain⟨us,rfl,hl,_⟩:=hx.qk;have key:∀d,(Instr.checkKey e (d+2) t (.agg us)).run P aw= .ok () aw:=λd=>by
   have:=TY (aw:=aw) (e:=e) (d:=d) a8.toList 0 bz _ us r hf hm (by simpa using hl) h;rw[a8R hu e (d+1),this];rfl
  exact key 9998
theorem T1{t:TypeId}{aa:ks}(ay:keyOk P t=some aa){x:AV}{u:Value}(hx:R w m O B x u)(h:keySelf aa x=true)(e:Bool)(aw:World):(Instr.checkKey e 10000 t u).run P aw= .ok () aw:=by
 unfold keySelf at h;split at h
 ·rename_i ex;obtain⟨d,hd,s4⟩:=LP (Gm ay);rcases s4 with⟨h,_⟩|⟨_,rfl⟩|⟨h,_⟩<;>first|(cases h;done)|skip
  cases hx with
  | @hP _ _ _ _ s _=>
   have key:∀d,(Instr.checkKey e (d+1) t (.string s)).run P aw= .ok () aw:=λd=>by simp[Instr.checkKey,run_underlying hd]
   exact key 9999
 ·split at h
  ·rename_i al;exact T0 ay hx al e aw
  ·cases h
end
theorem T2{α β:Type}{r:α->β->Prop}:∀ {l:List α} {ct:List β},ct.length=l.length->(∀i (h:i<l.length) (h':i<ct.length),r (l[i]) (ct[i]))->iR r l ct
 |[],[],_,_=>trivial
 |[],_::_,h,_=>by simp at h
 |_::_,[],h,_=>by simp at h
 |x::xs,y::ba,h,al=>⟨al 0 aG aG,T2 (by simpa using h) (λi a b=>al (i+1) (by simpa using a) (by simpa using b))⟩
theorem xO{α β:Type}{r:α->β->Prop}:∀ {l:List α} {ct:List β},iR r l ct->ct.length=l.length
 |[],[],_=>rfl
 |[],_::_,h=>h.elim
 |_::_,[],h=>h.elim
 |_::_,_::_,h=>by simp[xO h.2]
theorem xP{α β:Type}{r:α->β->Prop}:∀ {l:List α} {ct:List β},iR r l ct->∀i (h:i<l.length) (h':i<ct.length),r (l[i]) (ct[i])
 |[],[],_,i,h,_=>by simp at h
 |[],_::_,h,_,_,_=>h.elim
 |_::_,[],h,_,_,_=>h.elim
 |_::_,_::_,h,i,h1,h2=>by
  cases i with
  |zero=>exact h.1
  |succ i=>exact xP h.2 i (by simpa using h1) (by simpa using h2)
abbrev ky:=AV×AV×Nat
def qp(aa:ks)(k:AV):List ky->Option Nat->Prop
 |[],none=>True
 |[],some _=>False
 |e::_,some 0=>keyEq aa k e.1=some true
 |e::es,some (i+1)=>keyEq aa k e.1=some false/\qp aa k es (some i)
 |e::es,none=>keyEq aa k e.1=some false/\qp aa k es none
theorem a8T(aa:ks)(k:AV):Cl aa k []=some none:=rfl
theorem findE_cons(aa:ks)(k:AV)(e:ky)(es:List ky):Cl aa k (e::es)=match keyEq aa k e.1 with|none=>none|some true=>some (some e.2.1)|some false=>Cl aa k es:=rfl
theorem a8U(aa:ks)(k v:AV):qf aa k v []=some none:=rfl
theorem updE_cons(aa:ks)(k v:AV)(e:ky)(es:List ky):qf aa k v (e::es)=match keyEq aa k e.1 with
  |none=>none
  |some true=>some (some ((k,v,e.2.2)::es))
  |some false=>match qf aa k v es with|none=>none|some none=>some none|some (some es)=>some (some (e::es)):=rfl
theorem LS{aa:ks}{k:AV}:∀ {es:List ky} {r:Option AV},Cl aa k es=some r->(r=none/\qp aa k es none)\/∃i e,qp aa k es (some i)/\es[i]? =some e/\r=some e.2.1
 |[],r,h=>by rw[a8T] at h;cases h;exact .inl ⟨rfl,trivial⟩
 |e::es,r,h=>by
  rw[findE_cons] at h;split at h
  ·cases h
  ·rename_i ay;cases h;exact .inr ⟨0,e,ay,rfl,rfl⟩
  ·rename_i ay;rcases LS h with⟨h1,h2⟩|⟨i,dS,h1,h2,h3⟩
   ·exact .inl ⟨h1,ay,h2⟩
   ·exact .inr ⟨i+1,dS,⟨ay,h1⟩,by simpa using h2,h3⟩
theorem LU{aa:ks}{k v:AV}:∀ {es:List ky} {r:Option (List ky)},qf aa k v es=some r->(r=none/\qp aa k es none)\/∃i e,qp aa k es (some i)/\es[i]? =some e/\r=some (es.set i (k,v,e.2.2))
 |[],r,h=>by rw[a8U] at h;cases h;exact .inl ⟨rfl,trivial⟩
 |e::es,r,h=>by
  rw[updE_cons] at h;split at h
  ·cases h
  ·rename_i ay;cases h;exact .inr ⟨0,e,ay,rfl,rfl⟩
  ·rename_i ay;split at h<;>cases h
   ·rename_i hu;rcases LU hu with⟨h1,h2⟩|⟨i,dS,h1,h2,h3⟩
    ·exact .inl ⟨rfl,ay,h2⟩
    ·cases h3
   ·rename_i qq hu;rcases LU hu with⟨h1,h2⟩|⟨i,dS,h1,h2,h3⟩
    ·cases h1
    ·cases h3;exact .inr ⟨i+1,dS,⟨ay,h1⟩,by simpa using h2,rfl⟩
theorem T3{k:Nat}{x y:AV}(h:leafEq k x y=some true):leafEq k y x=some true:=by
 unfold leafEq at h;split at h
 ·split at h<;>simp at h;rename_i e;subst e;subst h;simp[leafEq]
 ·simp only[cJ,ox] at h;subst h;simp[leafEq,(ox _ _).2 I]
 ·simp at h;subst h;simp[leafEq]
 ·rename_i ex b;cases hm:qe b ex<;>rw[hm] at h<;>cases h
 ·rename_i a ex;cases hm:qe a ex<;>rw[hm] at h<;>cases h
 ·cases h
theorem T4:∀ {bz:List Nat} {x y:List AV},mq bz x y=some true->mq bz y x=some true
 |[],x,y,h=>by
  rw[leafEqs_nil] at h ⊢;split at h<;>cases h;rfl
 |k::bz,x,y,h=>by
  rw[leafEqs_cons] at h ⊢;split at h<;>try (cases h;done)
  split at h<;>try (cases h;done)
  rename_i ha hb;simp only[cJ,du] at h;obtain⟨rfl,rfl⟩:=h;simp only[T3 ha,T4 hb,K_]
theorem a8V{aa:ks}{x y:AV}(h:keyEq aa x y=some true):keyEq aa y x=some true:=by
 cases aa with
 |inl k=>exact T3 h
 |inr bz=>
  simp only[keyEq] at h ⊢;split at h<;>try (cases h;done)
  exact T4 h
section
variable {P:Program}{w:World}{m:Nat->Option Nat}{O:Nat->Prop}{B:Nat}
def uE(w:World)(m:Nat->Option Nat)(O:Nat->Prop)(B:Nat)(e:ky)(dS:MapEntry):Prop:=R w m O B e.1 dS.key/\R w m O B e.2.1 dS.val/\dS.born=e.2.2
def got(q:Option Nat)(n:Nat)(dR:List MapEntry):Option (Nat×Value):=match q with|none=>none|some i=>match dR[i]? with|some e=>some (i+n,e.val)|none=>none
theorem LV{t:TypeId}{aa:ks}(ay:keyOk P t=some aa){k:AV}{u:Value}(hu:R w m O B k u):∀ {es:List ky} {dR:List MapEntry} {q:Option Nat} (n:Nat),iR (uE w m O B) es dR->qp aa k es q->∀aw,
  (Instr.findAsking t u dR n).run P aw= .ok (got q n dR) aw
 |[],[],q,n,_,h,aw=>by
  cases q with
  |none=>simp[Instr.findAsking,got]
  |some i=>exact h.elim
 |[],_::_,_,_,h,_,_=>h.elim
 |_::_,[],_,_,h,_,_=>h.elim
 |e::es,dS::dR,q,n,al,h,aw=>by
  cases q with
  |none=>
   obtain⟨h1,h2⟩:=h;have:=(Gn ay hu al.1.1 h1).1 aw;have aH:=LV ay hu (n+1) al.2 h2 aw;simp[Instr.findAsking,this,aH,got]
  |some i=>
   cases i with
   |zero=>
    have:=(Gn ay hu al.1.1 h).1 aw;simp[Instr.findAsking,this,got]
   |succ i=>
    obtain⟨h1,h2⟩:=h;have:=(Gn ay hu al.1.1 h1).1 aw;have aH:=LV ay hu (n+1) al.2 h2 aw;simp only[Instr.findAsking,eV,this,e3,rj,if_false,aH,got,FN];cases dR[i]? <;>simp;omega
theorem LW{t:TypeId}{cD:Nat}{d:TypeDesc}(hd:P.underlying t=some d)(ay:leafKind P t=some cD){k:AV}{u:Value}(hu:R w m O B k u):∀ {es:List ky} {dR:List MapEntry} {q:Option Nat} (n:Nat),iR (uE w m O B) es dR->qp (.inl cD) k es q→
  Instr.findNow d u dR n=some (got q n dR)
 |[],[],q,n,_,h=>by
  cases q with
  |none=>simp[Instr.findNow,got]
  |some i=>exact h.elim
 |[],_::_,_,_,h,_=>h.elim
 |_::_,[],_,_,h,_=>h.elim
 |e::es,dS::dR,q,n,al,h=>by
  have same:∀ {r},keyEq (.inl cD) k e.1=some r->Instr.sameNow d u dS.key=some r:=λ{r} hh=>by
   obtain⟨_,⟨je,h1,_,h2⟩,_⟩:=xN ay hu al.1.1 hh;rw[hd] at h1;cases h1;exact h2
  cases q with
  |none=>
   obtain⟨h1,h2⟩:=h;have:=same h1;have aH:=LW hd ay hu (n+1) al.2 h2;simp[Instr.findNow,this,aH,got]
  |some i=>
   cases i with
   |zero=>
    have:=same h;simp[Instr.findNow,this,got]
   |succ i=>
    obtain⟨h1,h2⟩:=h;have:=same h1;have aH:=LW hd ay hu (n+1) al.2 h2;simp only[Instr.findNow,this,aH,got,FN];cases dR[i]? <;>simp;omega
theorem a8W{a8:Array Field}{u:Value}(e:MapEntry)(es:List MapEntry)(n:Nat):Instr.findNow (.struct a8) u (e::es) n=none:=by
 simp[Instr.findNow,Instr.sameNow]
theorem CI{t:TypeId}{aa:ks}(ay:keyOk P t=some aa){k:AV}{u:Value}(hu:R w m O B k u){es:List ky}{dR:List MapEntry}{q:Option Nat}(al:iR (uE w m O B) es dR)(h:qp aa k es q)(aw:World):
  (Instr.findKey t u dR).run P aw= .ok (got q 0 dR) aw:=by
 cases aa with
 |inl cD=>
  have hl:=Gm ay;obtain⟨d,hd,_⟩:=LP hl;have:=LW hd hl hu 0 al h;simp[Instr.findKey,run_underlying hd,this]
 |inr bz=>
  obtain⟨a8,hd,_⟩:=Gl ay;simp only[Instr.findKey,eV,run_underlying hd,e3];cases dR with
  |nil=>
   have a8X:es=[]:=oi (by have:=xO al;simpa using this.symm);subst a8X;cases q with
   |none=>simp[Instr.findNow,got]
   |some i=>exact h.elim
  |cons dS dR=>
   rw[a8W];exact LV ay hu 0 al h aw
theorem qp.lt{aa:ks}{k:AV}:∀ {es:List ky} {i:Nat},qp aa k es (some i)->∃e,es[i]? =some e/\keyEq aa k e.1=some true
 |[],i,h=>h.elim
 |e::es,0,h=>⟨e,rfl,h⟩
 |e::es,i+1,h=>by
  obtain⟨dS,h1,h2⟩:=qp.lt h.2;exact⟨dS,by simpa using h1,h2⟩
end
section
variable {P:Program}{J:ae}{w:World}{m:Nat->Option Nat}{B:Nat}{f:Nat}
theorem Rel.CJ(al:Rel P J w m B){id aF:Nat}{es:List ky}{aq:Nat}(hm:m id=some aF)(hg:J.get id=some (.map es aq)):
  ∃dR:Array MapEntry,w.heap[aF]? =some (.map dR aq)/\iR (uE w m (bp J m) B) es dR.toList:=by
 obtain⟨bU,h1,h2⟩:=al.obj id aF _ hm hg I;cases h2 with
 | @map _ dR _ hl iA=>
  refine⟨dR,h1,T2 (by simpa using hl) (λi a b=>?_)⟩;have:=iA i a (by simpa using b);exact⟨by simpa using this.1,by simpa using this.2.1,by simpa using this.2.2⟩
theorem xI{O:Nat->Prop}{a:AV}{u:Value}(two c:Bool)(h:R w m O B a u):R w m O B (v2 two a c) (if two then .tuple #[u,.bool c] else u):=by
 cases two with
 |false=>exact h
 |true=>exact R.uv (bK.cons h (bK.cons (.b c) bK.nil))
theorem a8Y(al:Rel P J w m B){t iO e:TypeId}(ht:P.underlying t=some (.map iO e)){aa:ks}(ay:keyOk P iO=some aa){z:AV}(bb:zeroOf P e=some z)(two:Bool){x k v:AV}{u qs:Value}
  (hx:R w m (bp J m) B x u) (qt:R w m (bp J m) B k qs)
  (h:lookupA J aa x k z two=some v):∃cj,(Instr.lookup t u qs two).run P w= .ok cj w/\R w m (bp J m) B v cj:=by
 obtain⟨eI,ir,mC,_⟩:=rz bb w;have mD:=mC w m (bp J m) B;unfold lookupA at h;cases rC:keySelf aa k with
 |false=>simp[rC] at h
 |true=>
  simp only[rC,cond_true] at h;split at h
  ·cases h;cases hx;have ab:=T1 ay qt rC true w;have hf:=CI (P:=P) (es:=[]) (dR:=[]) (q:=none) (w:=w) (m:=m) (O:=bp J m) (B:=B) ay qt trivial trivial w;refine⟨_,?_,xI two false mD⟩;simp[Instr.lookup,run_underlying ht,ab,hf,got,ir]
  ·rename_i id;obtain⟨aF,hm,rfl⟩:=hx.Ge;split at h<;>try (cases h;done)
   rename_i es aq hg;obtain⟨dR,hh,hall⟩:=al.CJ hm hg;have gx:=Gj (P:=P) (w:=w) hh (λ_ _ _ h=>by cases h);have ab:=T1 ay qt rC dR.isEmpty w;split at h<;>cases h
   ·rename_i bM CK;rcases LS CK with⟨h1,_⟩|⟨i,Gp,h1,h2,h3⟩
    ·cases h1
    ·cases h3;obtain⟨hi,dc⟩:=fC.1 h2;have hlen:=xO hall;have jR:i<dR.toList.length:=by omega
     have gE:=xP hall i hi jR;rw[dc] at gE;have hf:=CI (P:=P) ay qt hall h1 w;have zT:got (some i) 0 dR.toList=some (i,dR.toList[i].val):=by simp[got,cK jR]
     rw[zT] at hf;refine⟨_,?_,xI two true gE.2.1⟩;simp only[Instr.lookup,eV,run_underlying ht,e3,gx,ik,ab,hf]
   ·rename_i CK;rcases LS CK with⟨_,h1⟩|⟨i,Gp,h1,h2,h3⟩
    ·have hf:=CI (P:=P) ay qt hall h1 w;rw[show got none 0 dR.toList=none from rfl] at hf;refine⟨_,?_,xI two false mD⟩;simp only[Instr.lookup,eV,run_underlying ht,e3,gx,ik,ab,hf,ir]
    ·cases h3
  ·cases h
theorem T5(al:Rel P J w m B){t iO e:TypeId}(ht:P.underlying t=some (.map iO e)){aa:ks}(ay:keyOk P iO=some aa){id aF:Nat}{es:List ky}{aq:Nat}(ef:f<=id)(hm:m id=some aF)(hg:J.get id=some (.map es aq)){k v:AV}{qs zU:Value}
  (qt:R w m (bp J m) B k qs) (T6:R w m (bp J m) B v zU) {rE:Bool} (rC:keyEq aa k k=some rE) {r:Option (List ky)} (hu:qf aa k v es=some r):
  ∃aw,(Instr.mapUpdate t (.map (some aF)) qs zU).run P w= .ok () aw∧
   Rel P (J.set id (match r with|some es=>.map es aq|none=>.map (es++[(k,v,aq)]) (aq+1))) aw m B/\Ext f J w m (J.set id (match r with|some es=>.map es aq|none=>.map (es++[(k,v,aq)]) (aq+1))) aw m:=by
 obtain⟨dR,hh,hall⟩:=al.CJ hm hg;have hlen:=xO hall;simp only[sF] at hlen;have gx:=Gj (P:=P) (w:=w) hh (λ_ _ _ h=>by cases h);have ab:=T0 ay qt rC false w;have hb:=zE hh;have dd:∀(o:AO) (bU:Obj),mx P w m (bp J m) B o bU->eD w aF=none->o.isDead=false→
   Rel P (J.set id o) {w with heap:=w.heap.setIfInBounds aF bU} m B/\Ext f J w m (J.set id o) {w with heap:=w.heap.setIfInBounds aF bU} m:=λo bU ho hj hd=>
  al.dd ef hm ⟨_,hg,rfl⟩ {w with heap:=w.heap.setIfInBounds aF bU} o aG (λb a5=>by simp[K3 (p9 a5)]) (λn hn=>by rw[hj] at hn;cases hn) rfl rfl rfl (λ_=>⟨bU,by simp[hb],ho⟩)
 have hj:eD w aF=none:=by unfold eD;rw[hh]
 rcases LU hu with⟨rfl,fE⟩|⟨i,Gp,fE,hi,rfl⟩
 ·have hf:=CI (P:=P) ay qt hall fE w;rw[show got none 0 dR.toList=none from rfl] at hf;refine⟨{w with heap:=w.heap.setIfInBounds aF (.map (dR.push {key:=qs,val:=zU,born:=aq}) (aq+1))},?_,dd _ _ ?_ hj I⟩
  ·simp only[Instr.mapUpdate,eV,run_underlying ht,e3,gx,ab,hf];exact TU _ hh (λ_ _ _ h=>by cases h)
  ·refine .map (by simp[hlen]) (λj h1 h2=>?_);by_cases aC:j<es.length
   ·have:=xP hall j aC (by simp;omega);rw[g9 aC,Array.getElem_push_lt U];simpa [uE] using this
   ·have fw:j=es.length:=by simp at h1;omega
    subst fw;have:(dR.push {key:=qs,val:=zU,born:=aq})[es.length]'h2={key:=qs,val:=zU,born:=aq}:=by
     simp only[<-hlen,Array.getElem_push_eq]
    rw[this];simp only[ri (br _),Cf,Ce];exact⟨qt,T6,trivial⟩
 ·have hf:=CI (P:=P) ay qt hall fE w;obtain⟨vS,dc⟩:=fC.1 hi;have jR:i<dR.toList.length:=by simp;omega
  have a8Z:i<dR.size:=by simpa using jR
  have gE:=xP hall i vS jR;rw[dc] at gE;have zT:got (some i) 0 dR.toList=some (i,dR.toList[i].val):=by simp[got,cK jR]
  rw[zT] at hf;obtain⟨a6,nb,a9a⟩:=fE.lt;rw[hi] at nb;cases nb;have xF:=(Gn ay gE.1 qt (r:=true) (by
   exact a8V a9a)).2 I
  have hF:dR[i]? =some dR[i]:=sI a8Z;refine⟨{w with heap:=w.heap.setIfInBounds aF (.map (dR.modify i λe=>{e with key:=qs,val:=zU}) aq)},?_,dd _ _ ?_ hj I⟩
  ·simp only[Instr.mapUpdate,eV,run_underlying ht,e3,gx,ab,hf,hF,FP,Option.getD_some];have a9b:Instr.sameBits 10000 dR[i].key qs=true:=by simpa using xF
   have Gq:(Instr.keyThatStays dR[i].key qs).run P w= .ok qs w:=by simp only[Instr.keyThatStays,a9b,if_true,ik]
   simp only[Gq,e3];exact TU _ hh (λ_ _ _ h=>by cases h)
  ·refine .map (by simp[hlen]) (λj h1 h2=>?_);simp only[mo] at h1;have aC:=xP hall j h1 (by simp;omega);rw[ui,Array.getElem_modify];by_cases LX:i=j
   ·subst LX;simp only[if_true];refine⟨qt,T6,?_⟩;have:=gE.2.2;simpa using this
   ·simp only[if_neg LX];simpa [uE] using aC
end
end Go.Lyc
end
noncomputable section
namespace Go.Lyc
set_option maxHeartbeats 0
variable [Tok]
open Go.RowKit
open Go.ChangeMaps (setBlock)
section
variable {P:Program}{J:ae}{w:World}{m:Nat->Option Nat}{B f:Nat}
theorem a9c(s:ByteArray){c:Nat}(h:s.size<=c):(bytesRow s c).size=c:=by
 have:s.data.size=s.size:=rfl;simp[bytesRow,this];omega
theorem a9d{l:List Nat}(hl:∀c∈l,c<256){c:Nat}(i:Nat)(h:i<l.length):(bytesRow (strOf l) c)[i]? =some (.int .u8 (Int.ofNat l[i])):=by
 have ab:l[i]<256:=hl _ (bJ h);unfold bytesRow;rw[Array.getElem?_append_left (by simp[strOf];exact h)];simp[strOf,h];omega
theorem a9e(al:Rel P J w m B)(f:Nat){s d e:TypeId}(an:P.underlying s=some .string)(hd:P.underlying d=some (.slice e))(he:P.underlying e=some (.int .u8)){l:List Nat}{u:Value}(hx:R w m (bp J m) B (.s l) u):
  ∃cj aw aW,(convert s d u).run P w= .ok cj aw/\R aw aW (bp (J.push (.cells (l.map λc=>AV.i .u8 (Int.ofNat c)))) aW) B (.ao J.next 0 l.length none none) cj/\Rel P (J.push (.cells (l.map λc=>AV.i .u8 (Int.ofNat c)))) aw aW B/\Ext f J w m (J.push (.cells (l.map λc=>AV.i .u8 (Int.ofNat c)))) aw aW:=by
 obtain⟨rfl,hl⟩:=hx.pg;have cv:(strOf l).size=l.length:=vK l;have mE:=grownCap_ge w (strOf l).size 0 e;have cb:=run_bytes_of_string (P:=P) w s d e (strOf l) an hd he;obtain⟨cap,hk⟩:∃cap,cap=grownCap w (strOf l).size 0 e:=⟨_,rfl⟩
 rw[<-hk] at mE cb;have vQ:=a9c (strOf l) mE;obtain⟨h1,h2⟩:=al.alloc f (w.drew.alloc (.cells (bytesRow (strOf l) cap) e ((bytesRow (strOf l) cap).size,(bytesRow (strOf l) cap).size+1))) (.cells (l.map λc=>AV.i .u8 (Int.ofNat c))) _ I I I I I
  (.cells (by rw[vQ,b0];omega) (λi h h'=>by
   simp only[b0] at h;have h3:=a9d hl (c:=cap) i h;rw[sI h'] at h3;rw[e_,il h3];exact .i _ _) (λi hi=>by
    have:¬(bytesRow (strOf l) cap).size<=i:=by omega
    simp[this]) (λx hx=>by obtain⟨c,_,rfl⟩:=dx.1 hx;rfl))
 refine⟨_,_,_,cb,?_,h1,h2⟩;rw[cv];refine .ao (hD _ _ _) U (λc ab=>by cases ab) (n:=(bytesRow (strOf l) cap).size) ?_ (by rw[vQ];simp[shN]);have:(w.drew.alloc (.cells (bytesRow (strOf l) cap) e ((bytesRow (strOf l) cap).size,(bytesRow (strOf l) cap).size+1))).heap[w.heap.size]? =some (.cells (bytesRow (strOf l) cap) e ((bytesRow (strOf l) cap).size,(bytesRow (strOf l) cap).size+1)):=heap_alloc_new w.drew _;unfold eD;rw[this]
theorem LY{x:AV}{n:Nat}(h:byteOf x=some n):x= .i .u8 (Int.ofNat n)/\n<256:=by
 unfold byteOf at h;split at h
 ·rename_i k;cases hb:Nat.blt k 256 with
  |false=>rw[hb] at h;cases h
  |true=>rw[hb] at h;cases h;exact⟨rfl,by simpa [gQ] using hb⟩
 ·cases h
theorem a9f(al:Rel P J w m B){s d e:TypeId}(an:P.underlying s=some (.slice e))(he:P.underlying e=some (.int .u8))(hd:P.underlying d=some .string){x:AV}{xs:List AV}{l:List Nat}{u:Value}(hx:R w m (bp J m) B x u)(h:readList J x=some xs)(hb:mapO byteOf xs=some l):
  (convert s d u).run P w= .ok (.string (strOf l)) w/\∀c∈l,c<256:=by
 obtain⟨hlen,hF⟩:=ov hb;have dH:xs=l.map λc=>AV.i .u8 (Int.ofNat c):=by
  apply xu
  ·simp[hlen]
  ·intro i h1 h2;have:=(LY (hF i h1 U)).1;simp[this]
 have hlt:∀c∈l,c<256:=λc ab=>by
  obtain⟨i,hi,rfl⟩:=jw ab;exact(LY (hF i U hi)).2
 refine⟨?_,hlt⟩;obtain⟨base,c,us,rfl,hle,hR,xQ,kx,Gr⟩:=CD (aa:=none) al hx h (λa ha=>by rw[dH] at ha;obtain⟨c,_,rfl⟩:=dx.1 ha;rfl);cases base with
 |none=>
  obtain⟨h0,_⟩:=Gr;have:l=[]:=by
   have:=congrArg List.length h0;simp[dH] at this;exact this
  subst this;rw[run_convert_bytes_string w s d e _ _ _ an he hd];simp[Conv.bytesToString,strOf];rfl
 |some a=>
  obtain⟨a9g,xR,pr⟩:=Gr;clear pr;have zM:xs.flatMap AV.cells=xs:=by
   have h1:∀y∈xs,AV.cells y=[y]:=λy hy=>by rw[dH] at hy;obtain⟨c,_,rfl⟩:=dx.1 hy;rfl
   clear hR xQ kx hle dH h hb hlen hF hx a9g
   induction xs with
   |nil=>rfl
   |cons y ba aH=>rw[lC,h1 y aG,aH (λz bb=>h1 z (by simp[bb]))];rfl
  have key:=run_convert_bytes_back (P:=P) w s d e a c (l.map Nat.toUInt8) an he hd (λj aC=>by
   simp only[b0] at aC;have T7:j<us.length:=by rw[xQ];simp[shN];omega
   rw[zM] at hR;have h1:=hR.2 j U T7;have h2:xs[j]'U=AV.i .u8 (Int.ofNat l[j]):=(LY (hF j U aC)).1;rw[h2] at h1;have h3:=h1.l5;have aQ:=xR j us[j] (cK T7);rw[aQ,h3];have ab:l[j]<256:=hlt _ (bJ aC);simp;omega)
  have aR:xs.length=(l.map Nat.toUInt8).length:=by simp[hlen]
  rw[aR,key];rfl
theorem a9h(al:Rel P J w m B)(f:Nat){t e:TypeId}{aa:Option Nat}(ht:P.underlying t=some (.slice e))(an:shapeOf P e=some aa){i:TypeInfo}(hi:P.info? e=some i){z:AV}(bb:zeroOf P e=some z)(vN:z.cells.length=shN aa){n c:Nat}{Gs nN:IntKind}(a9i:n<=c)(hb:i.bytes*c<=281474976710656)(ab:c<=281474976710656):
  ∃cj aw aW,(Instr.makeSlice t (.int Gs (Int.ofNat n)) (.int nN (Int.ofNat c))).run P w= .ok cj aw/\R aw aW (bp (J.push (.cells (g2 c z.cells))) aW) B (.ao J.next 0 n aa (some c)) cj/\Rel P (J.push (.cells (g2 c z.cells))) aw aW B/\Ext f J w m (J.push (.cells (g2 c z.cells))) aw aW:=by
 obtain⟨_,cv,_⟩:=k4 an w;have T8:i.size=shN aa:=by
  have h1:=cv;simp[sizeOf,typeInfo,hi] at h1;exact h1
 obtain⟨eI,ir,mC,mD⟩:=rz bb w;have xS:i.zero=some eI:=by
  simp[zeroValue,typeInfo,hi] at ir;cases aX:i.zero with
  |none=>simp[aX] at ir
  |some q=>simp[aX] at ir;rw[ir]
 have na:=(mC w m (bp J m) B).cells;have l6:eI.cells.size=shN aa:=by have:=na.1;simp at this;omega
 have cb:=run_make (P:=P) w t e i eI ht hi xS Gs nN (Int.ofNat n) (Int.ofNat c) (Cd _) (by show(n:Int)<=c;omega) (by
                                                                         show(i.bytes:Int)*(c:Int)<=_;have:((i.bytes*c:Nat):Int)<=281474976710656:=by omega
                                                                         rwa[Int.natCast_mul] at this) (by show(c:Int)<=_;omega)
 have h9:(Int.ofNat c).toNat=c:=rfl;have aR:(Int.ofNat n).toNat=n:=rfl;rw[h9,aR,T8] at cb;have nI:=zI na c;have vO:eI.cells.toList.length=shN aa:=by simp[l6]
 rw[vO] at nI;have nH:(madeCells eI.cells (c*shN aa)).toList=(List.range (c*shN aa)).map λi=>eI.cells.toList[i%shN aa]! :=by
  unfold madeCells;rw[ug,xv];apply uc;intro a _;rw[l6,K9,qd];simp
 rw[<-nH] at nI;have zK:(madeCells eI.cells (c*shN aa)).size=c*shN aa:=size_madeCells _ _;obtain⟨aw,aW,iq,l4,ow,ux,CC⟩:=Gd al f (el:=e) nI (zJ mD c);have a9j:aw=w.alloc (.cells (madeCells eI.cells (c*shN aa)) e):=by
  have h1:(newRow e (madeCells eI.cells (c*shN aa))).run P w= .ok ⟨w.heap.size,0,none⟩ {w with heap:=w.heap.push (.cells (madeCells eI.cells (c*shN aa)) e)}:=by simp[newRow]
  rw[h1] at iq;cases iq;rfl
 subst a9j;exact⟨_,_,aW,cb,.ao l4 a9i (λbX h_=>by cases h_;rfl) (n:=(madeCells eI.cells (c*shN aa)).size) (by unfold eD;rw[ow]) (by rw[zK];omega),ux,CC⟩
theorem a9k(al:Rel P J w m B)(f:Nat){t LZ ty e:TypeId}{aa:Option Nat}{ga xT:IntKind}(ht:P.underlying t=some (.slice e))(a9l:P.underlying LZ=some (.int ga))(an:shapeOf P e=some aa){i:TypeInfo}(hi:P.info? e=some i){z:AV}(bb:zeroOf P e=some z)(vN:z.cells.length=shN aa)(xK:i.bytes≠0)(c5C:0<shN aa){k:Nat}(h0:0<k)(hb:(3*k+2000)*i.bytes<=281474976710656):
  ∃cj aw aW,(Builtin.append_ #[t,LZ] ty #[.slice none 0 0,.int xT (Int.ofNat k)]).run P w= .ok cj aw/\R aw aW (bp (J.push (.cells (g2 k z.cells))) aW) B (.ao J.next 0 k aa none) cj/\Rel P (J.push (.cells (g2 k z.cells))) aw aW B/\Ext f J w m (J.push (.cells (g2 k z.cells))) aw aW:=by
 obtain⟨_,cv,_⟩:=k4 an w;have T8:i.size=shN aa:=by
  have h1:=cv;simp[sizeOf,typeInfo,hi] at h1;exact h1
 obtain⟨eI,ir,mC,mD⟩:=rz bb w;have xS:i.zero=some eI:=by
  simp[zeroValue,typeInfo,hi] at ir;cases aX:i.zero with
  |none=>simp[aX] at ir
  |some q=>simp[aX] at ir;rw[ir]
 have na:=(mC w m (bp J m) B).cells;have l6:eI.cells.size=shN aa:=by have:=na.1;simp at this;omega
 have kb:1<=i.bytes:=SL.2 xK;have k6:(3*k+2000)*1<=(3*k+2000)*i.bytes:=SM _ kb;have s3:k*i.bytes<=(3*k+2000)*i.bytes:=rk _ U;have cb:=Lib.run_append_nil_zeros (P:=P) w t LZ ty e i eI xT ga ht a9l hi xS k h0 U U U;have mE:=grownCap_ge w k 0 e;have nI:=zI na k;have vO:eI.cells.toList.length=shN aa:=by simp[l6]
 have hh:(Builtin.zeroCells eI.cells k).toList=(List.range (k*eI.cells.toList.length)).map λi=>eI.cells.toList[i%eI.cells.toList.length]! :=by
  simp only[Builtin.zeroCells,ug,xv,sF];exact uc λi _=>by simp only[getElem!_def,mn]
 rw[<-hh] at nI;have zK:(Builtin.zeroCells eI.cells k).size=k*shN aa:=by rw[size_zeroCells,l6]
 have vQ:(Builtin.zeroCells eI.cells k++Builtin.zeroCells eI.cells (grownCap w k 0 e-k)).size=grownCap w k 0 e*shN aa:=by
  rw[SN,size_zeroCells,size_zeroCells,l6,← jL]
  congr 1;omega
 have CL:(g2 k z.cells).length=k*shN aa:=by have:=nI.1;rw[sF,zK] at this;omega
 obtain⟨h1,h2⟩:=al.alloc f (w.drew.alloc (.cells (Builtin.zeroCells eI.cells k++Builtin.zeroCells eI.cells (grownCap w k 0 e-k)) e)) (.cells (g2 k z.cells)) _ I I I I I
  (.cells (by rw[vQ,CL];exact rk _ mE) (λj h h'=>by
   have aC:j<(Builtin.zeroCells eI.cells k).size:=by omega
   have:=nI.2 j h (by simpa using aC);rw[SO aC];simpa using this) (λj _=>by simp) (zJ mD k))
 refine⟨_,_,_,cb,.ao (hD _ _ _) mE (λc ab=>by cases ab) (n:=grownCap w k 0 e*shN aa) ?_ U,h1,h2⟩;have:(w.drew.alloc (.cells (Builtin.zeroCells eI.cells k++Builtin.zeroCells eI.cells (grownCap w k 0 e-k)) e)).heap[w.heap.size]? =some (.cells (Builtin.zeroCells eI.cells k++Builtin.zeroCells eI.cells (grownCap w k 0 e-k)) e):=by
  exact heap_alloc_new w.drew _
 unfold eD;rw[this];simp only[vQ]
theorem Rel.a9m(al:Rel P J w m B){id aF since g1:Nat}{seen:List Nat}(hm:m id=some aF)(hg:J.get id=some (.mapIter none since seen g1)):w.heap[aF]? =some (.mapIter none since seen.toArray g1):=by
 obtain⟨bU,h1,h2⟩:=al.obj _ _ _ hm hg I;cases h2 with
 | @mapIter _ b _ _ _ hb=>
  cases b with
  |none=>exact h1
  |some b=>exact hb.elim
theorem Rel.T9(al:Rel P J w m B){id aF i since g1:Nat}{seen:List Nat}(hm:m id=some aF)(hg:J.get id=some (.mapIter (some i) since seen g1)):∃b,w.heap[aF]? =some (.mapIter (some b) since seen.toArray g1)/\m i=some b:=by
 obtain⟨bU,h1,h2⟩:=al.obj _ _ _ hm hg I;cases h2 with
 | @mapIter _ b _ _ _ hb=>
  cases b with
  |none=>exact hb.elim
  |some b=>exact⟨b,h1,hb⟩
theorem run_getObj_map{aF:Nat}{es:Array MapEntry}{aq:Nat}(h:w.heap[aF]? =some (.map es aq)):(getObj aF).run P w= .ok (.map es aq) w:=
 Gj (P:=P) (w:=w) h (λ_ _ _ h=>by cases h)
theorem T_(o:Obj)(w:World):(newObj o).run P w= .ok w.heap.size (w.alloc o):=rfl
theorem Ua(al:Rel P J w m B)(f:Nat){t k e:TypeId}(ht:P.underlying t=some (.map k e)){r:Option Nat}{u:Value}(hx:R w m (bp J m) B (.m r) u){o:AO}
  (ho:match r with|none=>o= .mapIter none 0 [] 0|some id=>∃es aq,J.get id=some (.map es aq)/\o= .mapIter (some id) aq [] aq):
  ∃cj aw aW,(Instr.range t u).run P w= .ok cj aw/\R aw aW (bp (J.push o) aW) B (jN J.next 0) cj/\Rel P (J.push o) aw aW B/\Ext f J w m (J.push o) aw aW:=by
 cases r with
 |none=>
  simp only at ho;subst ho;cases hx;obtain⟨h1,h2⟩:=al.alloc f (w.alloc (.mapIter none 0 #[] 0)) (.mapIter none 0 [] 0) (.mapIter none 0 #[] 0) I I I I I (.mapIter trivial);exact⟨.pointer (some ⟨w.heap.size,0,none⟩),w.alloc (.mapIter none 0 #[] 0),_,by simp[Instr.range,run_underlying ht,T_],.p (hD _ _ _),h1,h2⟩
 |some id=>
  obtain⟨es,aq,hg,rfl⟩:=ho;obtain⟨aF,hm,rfl⟩:=hx.Ge;obtain⟨dR,hh,_⟩:=al.CJ hm hg;obtain⟨h1,h2⟩:=al.alloc f (w.alloc (.mapIter (some aF) aq #[] aq)) (.mapIter (some id) aq [] aq) (.mapIter (some aF) aq #[] aq) I I I I I (.mapIter hm);exact⟨.pointer (some ⟨w.heap.size,0,none⟩),w.alloc (.mapIter (some aF) aq #[] aq),_,by simp[Instr.range,run_underlying ht,run_getObj_map hh,T_],.p (hD _ _ _),h1,h2⟩
theorem Ub(n:Nat):∀(l:List Nat),oq n l=l.contains n
 |[]=>rfl
 |x::l=>by
  show cond (Nat.beq x n) true (oq n l)=_;rw[List.contains_cons,Ub n l];have:(n==x)=Nat.beq x n:=by
   rw[sJ,oh,beq_iff_eq];exact⟨λh=>h.symm,λh=>h.symm⟩
  rw[this];cases Nat.beq x n<;>rfl
theorem Uc(seen:List Nat):∀(es:List ky),mu seen es=es.filter λe=>!seen.contains e.2.2
 |[]=>rfl
 |e::es=>by
  show cond (oq e.2.2 seen) (mu seen es) (e::mu seen es)=_;rw[Uc seen es,Ub,uj];cases seen.contains e.2.2<;>rfl
theorem L0{α β:Type}{r:α->β->Prop}{p:α->Bool}{q:β->Bool}(h:∀x y,r x y->p x=q y):∀ {l:List α} {ct:List β},iR r l ct->iR r (l.filter p) (ct.filter q)
 |[],[],_=>trivial
 |[],_::_,h'=>h'.elim
 |_::_,[],h'=>h'.elim
 |x::l,y::ct,h'=>by
  rw[uj,uj,h x y h'.1];cases q y with
  |true=>exact⟨h'.1,L0 h h'.2⟩
  |false=>exact L0 h h'.2
theorem Ud(al:Rel P J w m B){f:Nat}{it aF i since:Nat}{seen:List Nat}(hf:f<=it)(hm:m it=some aF)(hg:J.get it=some (.mapIter (some i) since seen since)){es:List ky}(kN:J.get i=some (.map es since))(a9n:∀e∈es,e.2.2<since)(t:TypeId):
  (mu seen es=[]/\(Instr.next (.pointer (some ⟨aF,0,none⟩)) false t).run P w= .ok (.tuple #[.bool false]) w)∨
  ∃e∈mu seen es,∃u aw,(Instr.next (.pointer (some ⟨aF,0,none⟩)) false t).run P w= .ok u aw∧
   R aw m (bp (J.set it (.mapIter (some i) since (seen++[e.2.2]) since)) m) B (.a9 [.b true,e.1,e.2.1]) u/\Rel P (J.set it (.mapIter (some i) since (seen++[e.2.2]) since)) aw m B/\Ext f J w m (J.set it (.mapIter (some i) since (seen++[e.2.2]) since)) aw m:=by
 obtain⟨b,hh,vT⟩:=al.T9 hm hg;obtain⟨dR,CM,hall⟩:=al.CJ vT kN;have a9o:∀e∈dR.toList,e.born<since:=λdS Cw=>by
  obtain⟨k,ay,rfl⟩:=jw Cw;have hlen:=xO hall;have:=xP hall k U ay;rw[this.2.2];exact a9n _ (bJ _)
 have L1:iR (uE w m (bp J m) B) (mu seen es) (leftOf dR seen.toArray).toList:=by
  rw[Uc];have h1:(leftOf dR seen.toArray).toList=dR.toList.filter λe=>!seen.contains e.born:=by simp[leftOf]
  rw[h1];exact L0 (λx y h=>by rw[h.2.2]) hall
 have hlt:=(al.fU _ _ hm).1;rcases run_next_at (P:=P) w t aF b since since seen.toArray dR since hh CM a9o (br _) with⟨h1,h2⟩|⟨dS,Cw,bW,mF,h2⟩
 ·refine .inl ⟨?_,h2⟩;have:=xO L1;rw[sF,h1] at this;exact oi this.symm
 ·obtain⟨k,ay,rfl⟩:=jw Cw;have hlen:=xO L1;have gE:=xP L1 k U ay;refine .inr ⟨(mu seen es)[k]'U,bJ _,?_⟩;generalize(mu seen es)[k]'U=e at gE;generalize(leftOf dR seen.toArray).toList[k]=aR at gE h2;obtain⟨a9p,a9q,a9r⟩:=gE;have L2:bW.heap=w.heap:=by rcases mF with rfl|rfl<;>rfl
  have a9s:eD w aF=none:=by unfold eD;rw[hh]
  obtain⟨l7,gD⟩:=al.dd (f:=f) hf hm ⟨_,hg,rfl⟩ (setBlock bW aF (.mapIter (some b) since (seen.toArray.push aR.born) since)) (.mapIter (some i) since (seen++[e.2.2]) since)
   (by simp[setBlock,L2]) (λk ay=>by simp[setBlock,L2,FO,p9 ay]) (λn hn=>by rw[a9s] at hn;cases hn)
   (by rcases mF with rfl|rfl<;>rfl) (by rcases mF with rfl|rfl<;>rfl) (by rcases mF with rfl|rfl<;>rfl)
   (λ_=>⟨.mapIter (some b) since (seen.toArray.push aR.born) since,by simp[setBlock,L2,FO,hlt],by
    have h9:seen.toArray.push aR.born=(seen++[e.2.2]).toArray:=by rw[a9r];simp
    rw[h9];exact .mapIter vT⟩)
  exact⟨_,_,h2,R.uv (bK.cons (.b true) (bK.cons (a9p.ext gD al) (bK.cons (a9q.ext gD al) bK.nil))),l7,gD⟩
theorem Ue{ps:Nat}:∀ {es:List ky} {dR:List MapEntry} {e:ky},iR (uE w m (bp J m) B) es dR->pc ps es=some e->∃dS,dR.find? (λx=>x.born==ps)=some dS/\uE w m (bp J m) B e dS
 |[],[],e,_,h=>by cases h
 |[],_::_,_,h,_=>h.elim
 |_::_,[],_,h,_=>h.elim
 |x::es,y::dR,e,hall,h=>by
  have h:cond (Nat.beq x.2.2 ps) (some x) (pc ps es)=some e:=h;have hb:(y.born==ps)=Nat.beq x.2.2 ps:=by
   rw[hall.1.2.2,sJ,oh,beq_iff_eq]
  rw[List.find?_cons,hb];cases aX:Nat.beq x.2.2 ps with
  |true=>rw[aX] at h;cases h;exact⟨y,rfl,hall.1⟩
  |false=>rw[aX] at h;exact Ue hall.2 h
theorem Uf:∀(l:List Nat),qg l=l.getLast?
 |[]=>rfl
 |x::l=>by
  have h:qg (x::l)=match qg l with|none=>some x|some y=>some y:=rfl
  rw[h,Uf l,List.getLast?_cons];cases l.getLast? <;>rfl
theorem a9t(al:Rel P J w m B){it aF i since aq:Nat}{seen:List Nat}(hm:m it=some aF)(hg:J.get it=some (.mapIter (some i) since seen aq)){es:List ky}(kN:J.get i=some (.map es aq)){ps:Nat}(hl:qg seen=some ps){e:ky}(he:pc ps es=some e):
  ∃u,(Instr.entry (.pointer (some ⟨aF,0,none⟩))).run P w= .ok u w/\R w m (bp J m) B (.a9 [e.1,e.2.1]) u:=by
 obtain⟨b,hh,vT⟩:=al.T9 hm hg;obtain⟨dR,CM,hall⟩:=al.CJ vT kN;obtain⟨dS,h1,h2⟩:=Ue hall he;have vU:seen.toArray.back? =some ps:=by rw[Uf] at hl;simpa using hl
 have hf:dR.find? (λx=>x.born==ps)=some dS:=by rw[<-Array.find?_toList];exact h1
 refine⟨.tuple #[dS.key,dS.val],?_,R.uv (bK.cons h2.1 (bK.cons h2.2.1 bK.nil))⟩;simp only[Instr.entry,getObj,eV,Sem.run,hh,CM,Result.andThen,vU,bne_self_eq_false,rj,if_false,hf];rfl
theorem a9u(al:Rel P J w m B){it aF since g1:Nat}{seen:List Nat}(hm:m it=some aF)(hg:J.get it=some (.mapIter none since seen g1))(t:TypeId):
  (Instr.next (.pointer (some ⟨aF,0,none⟩)) false t).run P w= .ok (.tuple #[.bool false]) w:=by
 have hh:=al.a9m hm hg;simp only[Instr.next,getObj,eV,Sem.run,hh,Result.andThen];rfl
end
end Go.Lyc
end
noncomputable section
namespace Go.Lyc
set_option maxHeartbeats 0
variable [Tok]
open Go.RowKit
section
variable {P:Program}{w:World}{m:Nat->Option Nat}{O:Nat->Prop}{B:Nat}
theorem a9v{t e:TypeId}{aa:Option Nat}(hu:P.underlying t=some (.slice e))(an:shapeOf P e=some aa){ol:Bool}{xs:List AV}{u:Value}(hx:R w m O B (.a_ ol aa xs) u)
  {c5 hi:Option Value} {l h:Nat} (hl:lG 0 c5 l) (hh:lG xs.length hi h) (h1:l<=h) (h2:h<=xs.length):
  ∃cj,(Instr.sliceAt t u c5 hi none).run P w= .ok cj w/\R w m O B (.a_ ol aa ((xs.drop l).take (h-l))) cj:=by
 obtain⟨_,cv,_⟩:=k4 an w;cases hx with
 |lD=>
  have aR:h=0:=by simpa using h2
  subst aR;have a6:l=0:=by omega
  subst a6;refine⟨.slice none 0 0,?_,?_⟩
  ·have:=sY (P:=P) (w:=w) (isSlice:=true) (len:=0) (cap:=0) hl hh (br 0) (br 0);simp[Instr.sliceAt,Instr.slice,run_underlying hu,this,cv]
  ·simpa using R.lD
 | @a_ _ _ _ _ _ _ aF off fZ sp ba cp rB ab al kL hf fu=>
  by_cases kz:xs=[]
  ·subst kz;have aR:h=0:=by simpa using h2
   subst aR;have a6:l=0:=by omega
   subst a6;refine⟨.slice (some ⟨aF,off,sp⟩) 0 fZ,?_,?_⟩
   ·have:=sY (P:=P) (w:=w) (isSlice:=true) (len:=0) (cap:=fZ) hl hh (br 0) (k0 _);simp[Instr.sliceAt,Instr.slice,run_underlying hu,this,cv,Addr.add]
   ·exact .a_ (xs:=[]) (λ_ _=>undef) (λh=>absurd I h) (λi h=>by simp at h) (λi h=>by simp at h) (λi h=>by simp at h) (k0 _) (λv av=>by simp at av) (λh=>absurd I h)
  obtain rfl:=fu kz;have hlen:((xs.drop l).take (h-l)).length=h-l:=by simp;omega
  have cb:(Instr.sliceAt t (.slice (some ⟨aF,off,none⟩) xs.length fZ) c5 hi none).run P w= .ok (.slice (some ⟨aF,if fZ=l then off else off+l*shN aa,none⟩) (h-l) (fZ-l)) w:=by
   simp only[Instr.sliceAt,Instr.slice,run_underlying hu,eV,e3,sY hl hh h1 (o_ h2 kL),cv,ik];split<;>simp[k5]
  refine⟨_,cb,?_⟩;by_cases bb:h-l=0
  ·have h9:(xs.drop l).take (h-l)=[]:=oi U;rw[h9,bb];exact .a_ (xs:=[]) (λ_ _=>undef) (λh=>absurd I h) (λi h=>by simp at h) (λi h=>by simp at h) (λi h=>by simp at h) (k0 _) (λv av=>by simp at av) (λh=>absurd I h)
  ·have gq:¬fZ=l:=by omega
   rw[if_neg gq];have hF:∀i (hi:i<((xs.drop l).take (h-l)).length),((xs.drop l).take (h-l))[i]=xs[l+i]'U:=λi hi=>by
    rw[ud,K6]
   have a5:xs≠[]:=λe=>by subst e;simp at h2;omega
   have key:R w m O B (.a_ ol aa ((xs.drop l).take (h-l))) (.slice (some ⟨aF,off+l*shN aa,none⟩) ((xs.drop l).take (h-l)).length (fZ-l)):=by
    refine .a_ (λi j=>ba (l+i) j) (λ_=>cp a5) (λi hi=>?_) (λi hi j aC=>?_) (λi hi j aC=>?_) U (λv av=>hf v (og (pa av))) (λ_=>rfl)
    ·rw[hF i hi];exact rB _ U
    ·simp only[hF i hi] at aC;have:=ab (l+i) U j aC;rw[<-this];congr 2;rw[jL];omega
    ·simp only[hF i hi] at aC ⊢;exact al (l+i) U j aC
   rw[hlen] at key;exact key
end
theorem Rel.xU{P:Program}{J:ae}{w:World}{m:Nat->Option Nat}{B:Nat}(al:Rel P J w m B):∀b,bp J m b->B<=b:=λ_ ⟨_,h,_⟩=>al.base _ _ h
structure Ctx(P:Program)(env:Env)(J:ae)(w:World)(m:Nat->Option Nat)(B:Nat)(ao:a1 AV)(a:Act):Prop where
 rel:Rel P J w m B
 bf:iP w m (bp J m) B ao a.tmps.toList
 globs:Globs env w B
section
variable {P:Program}{env:Env}{J:ae}{w:World}{m:Nat->Option Nat}{B:Nat}{f:Nat}{ao:a1 AV}{a:Act}
theorem Ctx.ar(c:Ctx P env J w m B ao a){x:Operand}{bP:aI}(hx:opdOf x=some bP){v:AV}(av:evalA env ao bP=some v):R w m (bp J m) B v (a.eval x):=Lv c.rel.xU c.globs c.bf hx av
theorem Ctx.qu(c:Ctx P env J w m B ao a){x:Option Operand}{bP:Option aI}(hx:opdO x=some bP){d n:Nat}(av:bndO (evalA env ao) bP d=some n):lG d (x.map a.eval) n:=a8b c.rel.xU c.globs c.bf hx av
theorem a9w(c:Ctx P env J w m B ao a){r:Result Next}{v:AV}(h:∃u,r= .ok (.value u) w/\R w m (bp J m) B v u):fD P B f J w m v J r:=
 let⟨_,h1,h2⟩:=h;fD.pure c.rel h1 h2
theorem fL(c:Ctx P env J w m B ao a){s:Sem Value}{v:AV}(h:∃u,s.run P w= .ok u w/\R w m (bp J m) B v u):fD P B f J w m v J ((do pure (.value (←s)):Sem Next).run P w):=by
 obtain⟨u,h1,h2⟩:=h;exact fD.pure c.rel (by simp[h1]) h2
theorem qv{s:Sem Value}{v:AV}{ag:ae}(h:∃u aw aW,s.run P w= .ok u aw/\R aw aW (bp ag aW) B v u/\Rel P ag aw aW B/\Ext f J w m ag aw aW):fD P B f J w m v ag ((do pure (.value (←s)):Sem Next).run P w):=by
 obtain⟨u,aw,aW,h1,h2,h3,aQ⟩:=h;exact⟨u,aw,aW,.inl (by simp[h1]),h2,h3,aQ⟩
theorem L3{s:Sem Unit}{ag:ae}(h:∃aw,s.run P w= .ok () aw/\Rel P ag aw m B/\Ext f J w m ag aw m):fD P B f J w m ea ag ((do s;pure .skip:Sem Next).run P w):=by
 obtain⟨aw,h1,h2,h3⟩:=h;exact⟨undef,aw,m,.inr ⟨by simp[h1],rfl⟩,R.undef,h2,h3⟩
variable {o:Oper}{cH:AOp}{v:AV}{ag:ae}
theorem Ug(c:Ctx P env J w m B ao a){x:Operand}(ho:o.op= .move x\/o.op= .assign x)(ab:cop P o=some cH)(h:opx f (evalA env ao) J cH=some (.val v ag)):fD P B f J w m v ag ((execOp a.eval o).run P w):=by
 have hx:∃bP,opdOf x=some bP/\cH= .bh bP:=by
  unfold cop at ab;rcases ho with ho|ho<;>(rw[ho] at ab;simp only[fq] at ab;obtain⟨bP,h1,rfl⟩:=ab;exact⟨bP,h1,rfl⟩)
 obtain⟨bP,hx,rfl⟩:=hx;simp only[opx] at h;split at h<;>cases h;rename_i av;have e:execOp a.eval o=pure (.value (a.eval x)):=by unfold execOp;rcases ho with ho|ho<;>rw[ho]
 rw[e];exact fD.pure c.rel I (c.ar hx av)
theorem a9x(c:Ctx P env J w m B ao a){x y z:Operand}(ho:o.op= .pick x y z)(ab:cop P o=some cH)(h:opx f (evalA env ao) J cH=some (.val v ag)):fD P B f J w m v ag ((execOp a.eval o).run P w):=by
 simp only[cop,ho,en,dP,eK,cJ] at ab;obtain⟨bP,hx,eQ,hy,vV,bb,rfl⟩:=ab;simp only[opx] at h;split at h<;>try (cases h;done)
 rename_i t ht;split at h<;>cases h;rename_i av;have hb:=(c.ar hx ht).vL;simp only[execOp,ho];refine a9w c ⟨if t then a.eval y else a.eval z,by simp[hb];cases t<;>rfl,?_⟩;cases t with
 |true=>exact c.ar hy av
 |false=>exact c.ar bb av
theorem a9y(c:Ctx P env J w m B ao a){t:TypeId}(ho:o.op= .alloc t)(ab:cop P o=some cH)(h:opx f (evalA env ao) J cH=some (.val v ag)):fD P B f J w m v ag ((execOp a.eval o).run P w):=by
 simp only[cop,ho,fq] at ab;obtain⟨z,bb,rfl⟩:=ab;simp only[opx] at h;cases h;simp only[execOp,ho];exact qv (a7J c.rel bb)
theorem a9z(c:Ctx P env J w m B ao a){t:TypeId}{x:Operand}(ho:o.op= .box t x)(ab:cop P o=some cH)(h:opx f (evalA env ao) J cH=some (.val v ag)):fD P B f J w m v ag ((execOp a.eval o).run P w):=by
 simp only[cop,ho,fq] at ab;obtain⟨bP,hx,rfl⟩:=ab;simp only[opx] at h;split at h<;>try (cases h;done)
 rename_i bM av;cases hval:bM.val with
 |false=>rw[hval] at h;cases h
 |true=>
  rw[hval,cond_true] at h;cases h;simp only[execOp,ho];exact qv (a7H c.rel (c.ar hx av) (LA (c.ar hx av) hval))
theorem a9A(c:Ctx P env J w m B ao a){t:TypeId}{x:Operand}(ho:o.op= .load t x)(ab:cop P o=some cH)(h:opx f (evalA env ao) J cH=some (.val v ag)):fD P B f J w m v ag ((execOp a.eval o).run P w):=by
 simp only[cop,ho,en,dP,eK,cJ] at ab;obtain⟨aa,an,bP,hx,rfl⟩:=ab;simp only[opx] at h;simp only[execOp,ho];split at h<;>try (cases h;done)
 rename_i p au;split at h<;>cases h;rename_i av;exact fL c (a7E c.rel an (c.ar hx au) av)
theorem a9B(c:Ctx P env J w m B ao a){t:TypeId}{x y:Operand}(ho:o.op= .store t x y)(ab:cop P o=some cH)(h:opx f (evalA env ao) J cH=some (.val v ag)):fD P B f J w m v ag ((execOp a.eval o).run P w):=by
 simp only[cop,ho,en,dP,eK,cJ] at ab;obtain⟨aa,an,bP,hx,eQ,hy,rfl⟩:=ab;simp only[opx] at h;simp only[execOp,ho];split at h<;>try (cases h;done)
 rename_i id off bM au av;split at h<;>try (cases h;done)
 rename_i ef;split at h<;>try (cases h;done)
 rename_i uF;split at h<;>try (cases h;done)
 rename_i cs hg;split at h<;>cases h;rename_i bX cn;obtain⟨aF,hm,my⟩:=(c.ar hx au).vM;rw[my];exact L3 (a7G c.rel an (by simpa [gQ] using ef) hm hg uF cn (c.ar hy av))
theorem a9C(c:Ctx P env J w m B ao a){x:Operand}(ho:o.op= .nilCheck x)(ab:cop P o=some cH)(h:opx f (evalA env ao) J cH=some (.val v ag)):fD P B f J w m v ag ((execOp a.eval o).run P w):=by
 simp only[cop,ho,fq] at ab;obtain⟨bP,hx,rfl⟩:=ab;simp only[opx] at h;split at h<;>try (cases h;done)
 rename_i bM av;cases hn:nilOk bM with
 |false=>rw[hn] at h;cases h
 |true=>
  rw[hn,cond_true] at h;cases h;exact fD.pure c.rel (a8i ho (c.ar hx av) hn) (c.ar hx av)
theorem a9D(c:Ctx P env J w m B ao a){op:UnOp}{t:TypeId}{x:Operand}(ho:o.op= .unOp op t x)(ab:cop P o=some cH)(h:opx f (evalA env ao) J cH=some (.val v ag)):fD P B f J w m v ag ((execOp a.eval o).run P w):=by
 simp only[execOp,ho];cases op<;>simp only[cop,ho,fq,reduceCtorEq] at ab
 ·obtain⟨bP,hx,rfl⟩:=ab;simp only[opx] at h;split at h<;>cases h;rename_i av;exact fL c ⟨_,a8k (c.ar hx av),.i _ _⟩
 ·obtain⟨bP,hx,rfl⟩:=ab;simp only[opx] at h;split at h<;>cases h;rename_i av;exact fL c ⟨_,a8j (c.ar hx av),.b _⟩
theorem Uh:∀ {bz nO:List Nat} {l r:List AV} {res:Bool},mq (bz++nO) l r=some res->∃a b,mq bz (l.take bz.length) (r.take bz.length)=some a/\mq nO (l.drop bz.length) (r.drop bz.length)=some b/\res=(a&&b)
 |[],nO,l,r,res,h=>⟨true,res,rfl,by simpa using h,aG⟩
 |k::bz,nO,l,r,res,h=>by
  rw[Cg,leafEqs_cons] at h;split at h<;>try (cases h;done)
  rename_i x xs y ba;split at h<;>cases h;rename_i a b ha hb;obtain⟨cL,fK,h1,h2,rfl⟩:=Uh hb;refine⟨a&&cL,fK,?_,h2,by rw[Bool.and_assoc]⟩;rw[gp,SQ,SQ,leafEqs_cons];simp only[ha,h1]
theorem L4{d:Nat}{cs ds:List AV}{us bo:Array Value}{O:Nat->Prop}(hl:bK w m O B cs us.toList)(al:bK w m O B ds bo.toList)(ef:∀x∈cs,conf none x=true)(bC:∀x∈ds,conf none x=true):
  ∀(a8:List Field) (i:Nat) (bz:List Nat) (res:Bool),flatS P i a8=some bz->mq bz (cs.drop i) (ds.drop i)=some res->∀aw,
  (forIn a8 ((none:Option Bool),()) (λ(f:Field) (_:Option Bool×Unit)=>
      if f.name= "_" then(pure (ForInStep.yield (none,())):Sem (ForInStep (Option Bool×Unit)))
      else do
       let a <-part f.type us f.offset
       let b <-part f.type bo f.offset
       let c <-Op.equalIn (d+2) f.type a b
       if c=false then pure (ForInStep.done (some false,())) else pure (ForInStep.yield (none,())))).run P aw= .ok (if res then(none,()) else(some false,())) aw
 |[],i,bz,res,ay,h,aw=>by
  rw[flatS] at ay;cases ay;rw[leafEqs_nil] at h;split at h<;>cases h;simp
 |f::a8,i,bz,res,ay,h,aw=>by
  rw[flatS] at ay;split at ay<;>try (cases ay;done)
  rename_i ab;obtain⟨h1,rfl⟩:=ab;split at ay
  ·rename_i k gJ;split at ay<;>try (cases ay;done)
   rename_i an;obtain⟨uD,oy,rfl⟩:=fq.1 ay;rw[leafEqs_cons] at h;split at h<;>try (cases h;done)
   rename_i x xs y ba ex Ui;split at h<;>cases h;rename_i a b ha hb;obtain⟨u,hu,jQ⟩:=(hl.drop f.offset).get (i:=0) (v:=x) (by rw[ex];rfl);obtain⟨v,av,LR⟩:=(al.drop f.offset).get (i:=0) (v:=y) (by rw[Ui];rfl);rw[sH,sG,mn] at hu av;obtain⟨aR,_⟩:=xN gJ jQ LR ha;have aH:=L4 hl al ef bC a8 (f.offset+1) uD b oy (by rw[<-nD,← nD,ex,Ui];exact hb) aw (d:=d);rw[FT];simp only[h1,if_false,eV,CH an hu,CH an av,e3,aR];cases a with
   |false=>simp
   |true=>simpa using aH
  ·split at ay<;>try (cases ay;done)
   rename_i nO L5;split at ay<;>try (cases ay;done)
   rename_i an;obtain⟨uD,oy,rfl⟩:=fq.1 ay;obtain⟨a,b,ha,hb,rfl⟩:=Uh h;obtain⟨bL,bQ,_⟩:=k4 an aw;have hx:∀ {cs:List AV} {us:Array Value},bK w m O B cs us.toList->(part f.type us f.offset).run P aw= .ok (.agg (us.extract f.offset (f.offset+nO.length))) aw/\bK w m O B ((cs.drop f.offset).take nO.length) (us.extract f.offset (f.offset+nO.length)).toList:=λab=>by
    refine⟨by simp[part,bL,bQ,shN],?_⟩;have:=(ab.drop f.offset).take nO.length;simpa using this
   obtain⟨p1,iq⟩:=hx hl;obtain⟨p2,l4⟩:=hx al;obtain⟨gR,hu,pt,hf,hm⟩:=Gl L5;have aR:(Op.equalIn (d+2) f.type (.agg (us.extract f.offset (f.offset+nO.length))) (.agg (bo.extract f.offset (f.offset+nO.length)))).run P aw= .ok a aw:=by
    have:=forIn_eq (aw:=aw) (d:=d) gR.toList 0 nO _ _ (us.extract f.offset (f.offset+nO.length)) (bo.extract f.offset (f.offset+nO.length)) a hf hm (by rw[FU];exact iq) (by rw[FU];exact l4) ha;rw[eqStruct_run hu pt (d+1),this];cases a<;>simp
   have aH:=L4 hl al ef bC a8 (f.offset+nO.length) uD b oy (by rw[<-nD,← nD];exact hb) aw (d:=d);rw[FT];simp only[h1,if_false,eV,p1,p2,e3,aR];cases a with
   |false=>simp
   |true=>simpa using aH
theorem a9E{O:Nat->Prop}{t:TypeId}{kind:Nat}(ay:stK P t=some kind){x y:AV}{v:Bool}{a b:Value}(ha:R w m O B x a)(hb:R w m O B y b)(h:isNilEq kind x y=some v)(eX ej:Operand):
  (((do eqGuard .eql t eX ej a b;Go.binOp .eql t a b:Sem Value).run P w= .ok (.bool v) w/\(do eqGuard .neq t eX ej a b;Go.binOp .neq t a b:Sem Value).run P w= .ok (.bool (!v)) w)):=by
 unfold stK at ay;split at ay<;>try (cases ay;done)
 rename_i a8 hu;split at ay<;>try (cases ay;done)
 rename_i pt;have pt:P.stoodInHeld t=false:=by simpa using pt
 split at ay<;>try (cases ay;done)
 rename_i bz L5;split at ay<;>cases ay;rename_i hd;obtain⟨hd,hg⟩:=hd;have key:keyEq (.inr bz) x y=some v:=by
  unfold isNilEq at h;split at h
  case h_12=>
   have e:Nat.ble 10 (10+F2 bz)=true:=j7 (FV _ _);rw[e,cond_true,SR,hd] at h;exact h
  case h_13=>cases h
  all_goals (rename_i bb;first|(exfalso;omega)|(rename_i ir _;exfalso;omega)|(rename_i ir _ _;exfalso;omega))
 simp only[keyEq] at key;split at key<;>try (cases key;done)
 obtain⟨us,rfl,hl,ef⟩:=ha.qk;obtain⟨bo,rfl,al,bC⟩:=hb.qk;have he:(Op.equal t (.agg us) (.agg bo)).run P w= .ok v w:=by
  have a9F:∀d,(Op.equalIn (d+3) t (.agg us) (.agg bo)).run P w= .ok v w:=λd=>by
   have:=L4 (aw:=w) (d:=d) hl al ef bC a8.toList 0 bz v L5 (by simpa using key);rw[eqStruct_run hu pt (d+2),this];cases v<;>simp
  exact a9F 9997
 have h1:Go.binOp .eql t (.agg us) (.agg bo)=(do pure (.bool (←Op.equal t (.agg us) (.agg bo))):Sem Value):=rfl;have h2:Go.binOp .neq t (.agg us) (.agg bo)=(do pure (.bool (!(←Op.equal t (.agg us) (.agg bo)))):Sem Value):=rfl;have g:∀op,(eqGuard op t eX ej (.agg us) (.agg bo)).run P w= .ok () w:=λop=>by
  unfold eqGuard;cases op<;>simp[hg]
 constructor
 ·rw[h1];simp[eV,g,he]
 ·rw[h2];simp[eV,g,he]
theorem a9G(c:Ctx P env J w m B ao a){op:BinOp}{t:TypeId}{x y:Operand}{z:TypeId}(ho:o.op= .binOp op t x y z)(ab:cop P o=some cH)(h:opx f (evalA env ao) J cH=some (.val v ag)):fD P B f J w m v ag ((execOp a.eval o).run P w):=by
 simp only[cop,ho,en,dP] at ab;obtain⟨bP,hx,eQ,hy,ab⟩:=ab;simp only[execOp,ho];have plain:cH= .bin op bP eQ->fD P B f J w m v ag ((do pure (.value (←(do eqGuard op t x y (a.eval x) (a.eval y);Go.binOp op t (a.eval x) (a.eval y)))):Sem Next).run P w):=λe=>by
  subst e;simp only[opx] at h;split at h<;>try (cases h;done)
  rename_i p q au aX;split at h<;>cases h;rename_i av;obtain⟨u,h1,h2,h3⟩:=ok_bin (P:=P) (t:=t) (c.ar hx au) (c.ar hy aX) av;exact fL c ⟨u,by rw[h3 x y];exact h1,h2⟩
 have Uj:∀neg,P.underlying t=some .bool->op=(if neg then .neq else .eql)->cH= .zv neg bP eQ->fD P B f J w m v ag ((do pure (.value (←(do eqGuard op t x y (a.eval x) (a.eval y);Go.binOp op t (a.eval x) (a.eval y)))):Sem Next).run P w):=λneg ht eb e=>by
  subst e;simp only[opx] at h;split at h<;>try (cases h;done)
  rename_i p q au aX;split at h<;>cases h;rename_i b av;obtain⟨h1,h2⟩:=a7O ht (c.ar hx au) (c.ar hy aX) av x y;cases neg with
  |false=>subst eb;exact fL c ⟨_,h1,.b _⟩
  |true=>subst eb;exact fL c ⟨_,h2,.b _⟩
 have s5:∀kind neg,Ty P t kind->op=(if neg then .neq else .eql)->cH= .j8 kind neg bP eQ->fD P B f J w m v ag ((do pure (.value (←(do eqGuard op t x y (a.eval x) (a.eval y);Go.binOp op t (a.eval x) (a.eval y)))):Sem Next).run P w):=λkind neg ht eb e=>by
  subst e;simp only[opx] at h;split at h<;>try (cases h;done)
  rename_i p q au aX;split at h<;>cases h;rename_i b av;obtain⟨h1,h2⟩:=a7Q ht (c.ar hx au) (c.ar hy aX) av x y;cases neg with
  |false=>subst eb;exact fL c ⟨_,h1,.b _⟩
  |true=>subst eb;exact fL c ⟨_,h2,.b _⟩
 have strs:∀kind neg,stK P t=some kind->op=(if neg then .neq else .eql)->cH= .j8 kind neg bP eQ->fD P B f J w m v ag ((do pure (.value (←(do eqGuard op t x y (a.eval x) (a.eval y);Go.binOp op t (a.eval x) (a.eval y)))):Sem Next).run P w):=λkind neg ht eb e=>by
  subst e;simp only[opx] at h;split at h<;>try (cases h;done)
  rename_i p q au aX;split at h<;>cases h;rename_i b av;obtain⟨h1,h2⟩:=a9E ht (c.ar hx au) (c.ar hy aX) av x y;cases neg with
  |false=>subst eb;exact fL c ⟨_,h1,.b _⟩
  |true=>subst eb;exact fL c ⟨_,h2,.b _⟩
 split at ab
 case h_15=>obtain⟨k,ay,rfl⟩:=fq.1 ab;exact strs k false ay I I
 case h_16=>obtain⟨k,ay,rfl⟩:=fq.1 ab;exact strs k true ay I I
 case h_17=>cases ab
 all_goals cases ab
 ·exact plain I
 ·exact plain I
 ·rename_i ht;exact Uj false ht I I
 ·rename_i ht;exact Uj true ht I I
 ·rename_i ht;exact s5 0 false (.inl ⟨rfl,_,ht⟩) I I
 ·rename_i ht;exact s5 0 true (.inl ⟨rfl,_,ht⟩) I I
 ·rename_i ht;exact s5 1 false (.inr (.inl ⟨rfl,_,ht⟩)) I I
 ·rename_i ht;exact s5 1 true (.inr (.inl ⟨rfl,_,ht⟩)) I I
 ·rename_i ht;exact s5 2 false (.inr (.inr (.inl ⟨rfl,_,_,_,ht⟩))) I I
 ·rename_i ht;exact s5 2 true (.inr (.inr (.inl ⟨rfl,_,_,_,ht⟩))) I I
 ·rename_i ht;exact s5 3 false (.inr (.inr (.inr (.inl ⟨rfl,_,ht⟩)))) I I
 ·rename_i ht;exact s5 3 true (.inr (.inr (.inr (.inl ⟨rfl,_,ht⟩)))) I I
 ·rename_i ht;exact s5 4 false (.inr (.inr (.inr (.inr ⟨rfl,_,_,ht⟩)))) I I
 ·rename_i ht;exact s5 4 true (.inr (.inr (.inr (.inr ⟨rfl,_,_,ht⟩)))) I I
theorem Uk{P:Program}{t:TypeId}(h:isU8 P t=true):P.underlying t=some (.int .u8):=by
 unfold isU8 at h;split at h
 ·assumption
 ·cases h
theorem a9H(c:Ctx P env J w m B ao a){s d:TypeId}{x:Operand}(ho:o.op= .convert s d x)(ab:cop P o=some cH)(h:opx f (evalA env ao) J cH=some (.val v ag)):fD P B f J w m v ag ((execOp a.eval o).run P w):=by
 simp only[cop,ho] at ab;simp only[execOp,ho];split at ab
 ·rename_i eR k an hd;simp only[fq] at ab;obtain⟨bP,hx,rfl⟩:=ab;simp only[opx] at h;split at h
  ·cases h;rename_i av;exact fL c ⟨_,a8l an hd (c.ar hx av),.i _ _⟩
  ·rename_i av;split at h<;>cases h;obtain⟨n,h1,h2⟩:=a8m an hd (c.ar hx av);exact fL c ⟨_,h1,h2⟩
  ·cases h
 ·rename_i e an hd;split at ab<;>try (cases ab;done)
  rename_i L6;simp only[fq] at ab;obtain⟨bP,hx,rfl⟩:=ab;simp only[opx] at h;split at h<;>cases h;rename_i l av;exact qv (a9e c.rel f an hd (Uk L6) (c.ar hx av))
 ·rename_i e an hd;split at ab<;>try (cases ab;done)
  rename_i L6;simp only[fq] at ab;obtain⟨bP,hx,rfl⟩:=ab;simp only[opx] at h;split at h<;>try (cases h;done)
  rename_i zV av;split at h<;>try (cases h;done)
  rename_i xs a9I;split at h<;>cases h;rename_i l hl;obtain⟨h1,h2⟩:=a9f c.rel an (Uk L6) hd (c.ar hx av) a9I hl;exact fL c ⟨_,h1,.s _ h2⟩
 ·cases ab
theorem a9J(c:Ctx P env J w m B ao a){t:TypeId}{x:Operand}(ho:o.op= .makeInterface t x)(ab:cop P o=some cH)(h:opx f (evalA env ao) J cH=some (.val v ag)):fD P B f J w m v ag ((execOp a.eval o).run P w):=by
 simp only[cop,ho] at ab;simp only[execOp,ho];split at ab<;>try (cases ab;done)
 rename_i d a5 hd;simp only[fq] at ab;obtain⟨bP,hx,rfl⟩:=ab;simp only[opx] at h;split at h<;>cases h;rename_i av;exact fL c ⟨_,a8n hd (λms e=>a5 ms e) _,.it (c.ar hx av)⟩
theorem a9K(c:Ctx P env J w m B ao a){fn:Fn}{xs ba:Array Operand}(ho:o.op= .makeFunc fn xs ba)(ab:cop P o=some cH)(h:opx f (evalA env ao) J cH=some (.val v ag)):fD P B f J w m v ag ((execOp a.eval o).run P w):=by
 simp only[cop,ho] at ab;simp only[execOp,ho];split at ab<;>try (cases ab;done)
 rename_i g;simp only[en,dP,eK,cJ] at ab;obtain⟨bP,hx,eQ,hy,rfl⟩:=ab;simp only[opx] at h;split at h<;>cases h;rename_i p q au aX;have h1:=Cu c.rel.xU c.globs c.bf hx au;have h2:=Cu c.rel.xU c.globs c.bf hy aX;have aR:=h1.1;have a6:=h2.1;simp at aR a6;refine fL c ⟨_,rfl,.cQ (by simpa using aR) (λi a b=>?_) (by simpa using a6) (λi a b=>?_)⟩
 ·have:=h1.2 i a (by simpa using b);simpa using this
 ·have:=h2.2 i a (by simpa using b);simpa using this
theorem a9L(c:Ctx P env J w m B ao a){t:TypeId}{r:Option Operand}(ho:o.op= .makeMap t r)(ab:cop P o=some cH)(h:opx f (evalA env ao) J cH=some (.val v ag)):fD P B f J w m v ag ((execOp a.eval o).run P w):=by
 simp only[cop,ho] at ab;simp only[execOp,ho];have key:(Instr.makeMap t (r.map a.eval)).run P w= .ok (.map (some w.heap.size)) {w with heap:=w.heap.push (.map #[] 0)}/\cH= .mkMap:=by
  split at ab<;>cases ab
  ·exact⟨by simp[Instr.makeMap],rfl⟩
  ·rename_i ht;exact⟨by simp[Instr.makeMap,run_underlying ht,Act.eval,asInt,asIntOf],rfl⟩
 obtain⟨key,rfl⟩:=key;simp only[opx] at h;cases h;obtain⟨h1,h2⟩:=c.rel.alloc f {w with heap:=w.heap.push (.map #[] 0)} (.map [] 0) (.map #[] 0) I I I I I (.map I (λi h=>by simp at h));exact qv ⟨_,_,_,key,.mp (hD _ _ _),h1,h2⟩
end
end Go.Lyc
end
