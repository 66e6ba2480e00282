/-
  An abstract executor of the program's code, and that it is sound, part 1. No conditions: definitions and laws.
-/
import GoSem.Step
import Derived.RangeFuncLeaves
import Derived.RecoverIn
import Derived.OrdersIn
import Derived.Laws.IdiomCopy
import Derived.Below
import Derived.MapKept
import Derived.Laws.Strings
import Derived.Deep.Upon
import Derived.Laws.IdiomStrings
import Derived.Laws.MakeOwn
import Derived.Lib.AppendZeros
import Derived.Maps.RangeRun
set_option linter.all false
noncomputable section
namespace Go.Lyc
theorem I{α:Sort _}{a:α}:a=a:=rfl
set_option maxHeartbeats 0
inductive AV where
 |b (x:Bool)
 |i (k:IntKind) (n:Int)
 |s (l:List Nat)
 |p (a:Option (Nat×Nat))
 |df (old:Bool) (v:AV)
 |al (id off len:Nat) (U:Option Nat) (cap:Option Nat)
 |ae
 |a7 (old:Bool) (U:Option Nat) (xs:List AV)
 |m (r:Option Nat)
 |f (fn:Fn) (first captured:List AV)
 |dA
 |it (t:TypeId) (v:AV)
 |eO
 |ag (l:List AV)
 |a6 (l:List AV)
 |gk (k:IntKind) (d j:Nat) -- a b8A number,of Ou is known Cs it leaves by d
 |gK (ex:List (List Nat)) -- a string,none of a0p
 |g1 (hi:Bool) -- y1 i64 y2 is not known:b8B it is b8C b8D 40
 |y (i:Nat) -- a string,y1 integer y2 is not known
 |fs (old:Bool) (i:Nat) -- a slice y2 is not known,over memory y2 never changes
 deriving Inhabited
inductive aF where
 |t (i:Nat)
 |c (v:AV)
 |g (g:Nat)
 deriving Inhabited
inductive qm where
 |fn (f:Nat)
 |val (o:aF)
 deriving Inhabited
inductive AOp where
 |bx (x:aF)
 |pick (c a b:aF)
 |alloc (v:AV)
 |box (x:aF)
 |build (zero:List AV) (parts:List (Nat×Nat×aF)) -- offset,cells,Cs
 |buildSlice (U:Option Nat) (len:Nat) (zero:List AV) (parts:List (Nat×aF))
 |load (U:Option Nat) (a:aF)
 |store (U:Option Nat) (a x:aF)
 |nilCheck (x:aF)
 |bin (op:BinOp) (x y:aF)
 |wJ (neg:Bool) (x y:aF)
 |iQ (kind:Nat) (neg:Bool) (x y:aF) -- kind:0 interface,1 pointer,2 function,3 slice,4 map;from 10 on:structs
 |not (x:aF)
 |neg (x:aF)
 |conv (k:IntKind) (x:aF)
 |y3 (x:aF)
 |Ct (x:aF)
 |Cu (t:TypeId) (x:aF)
 |e_ (fn:Fn) (first captured:List aF)
 |mkMap
 |mkSlice (U:Option Nat) (bytes:Nat) (zero:List AV) (len cap:aF)
 |sV (n:Nat) (U:Option Nat) (x:aF) (cF hi:Option aF)
 |ks (U:Option Nat) (x:aF) (cF hi fg:Option aF)
 |hz (x:aF) (cF hi:Option aF)
 |fieldAddr (off:Nat) (U:Option Nat) (x:aF)
 |field (off:Nat) (U:Option Nat) (x:aF)
 |pa (n:Nat) (U:Option Nat) (x i:aF)
 |bl (U:Option Nat) (x i:aF)
 |jV (x i:aF)
 |wK (n:Nat) (U:Option Nat) (x i:aF)
 |lookup (U:Nat ⊕ List Nat) (x k:aF) (zero:AV) (ok:Bool) -- rF b8E shape
 |iR (U:Nat ⊕ List Nat) (m k v:aF)
 |rangeMap (x:aF)
 |qn (x:aF)
 |entry (x:aF)
 |Cv (x:aF) (t:TypeId) (zero:AV) (ok:Bool)
 |extract (x:aF) (i:Nat)
 |call (c:qm) (args:List aF)
 |jW (c:qm) (args:List aF)
 |panic (x:aF)
 |append (U:Option Nat) (bytes:Nat) (s x:aF)
 |len (kind:Nat) (x:aF) -- 0:string;1:slice;2:map
 |Cw (n:Nat)
 |cap (x:aF)
 |copy (U:Option Nat) (d s:aF)
 |y4 (fg:Bool) (x y:aF)
 |recover
 |bad
 deriving Inhabited
structure aY where
 dst:Option Nat
 op:AOp
 guard:Option (Nat×Bool) -- rF a0q,and Cs it b8F be
 iS:List Nat -- of a region y2 b8G:rF places ahead of Ou it may b8H,b8I
 deriving Inhabited
inductive bF where
 |skip
 |region (ops:List aY)
 |draw (ops:List aY)
 |seq (a b:bF)
 |cond (c:aF) (a b:bF)
 |block (id:Nat) (a:bF)
 |loop (a:bF)
 |scope (a:bF)
 |rangeFunc (f:aF) (aC:List Nat) (assign body:bF)
 |exit (id:Nat)
 |ret
 |bad
 deriving Inhabited
structure aI where
 jg:Nat
 ntmps:Nat
 results:List (Nat×Option (Option Nat)) -- rF a0q;none:by value;some U:a cell of y2 shape
 body:Option bF
 deriving Inhabited
inductive aX(α:Type) where
 |nil
 |node (v:Option α) (l r:aX α)
 deriving Inhabited
def aX.get{α:Type}(t:aX α):Nat->Option α:=
 aX.rec (λ_=>none) (λv _ _ fY y5 i=>Bool.rec (motive:=λ_=>Option α) (Bool.rec (motive:=λ_=>Option α) (y5 (Nat.div (Nat.sub i 1) 2)) (fY (Nat.div (Nat.sub i 1) 2)) (Nat.beq (Nat.mod i 2) 1)) v (Nat.beq i 0)) t
def aX.set{α:Type}(t:aX α):Nat->α->aX α:=
 aX.rec (λ_ _=>.nil) (λv l r fY y5 i x=>Bool.rec (motive:=λ_=>aX α) (Bool.rec (motive:=λ_=>aX α) (.node v l (y5 (Nat.div (Nat.sub i 1) 2) x)) (.node v (fY (Nat.div (Nat.sub i 1) 2) x) r) (Nat.beq (Nat.mod i 2) 1))
  (.node (Option.rec (motive:=λ_=>Option α) none (λ_=>some x) v) l r) (Nat.beq i 0)) t
def aX.wL{α:Type}(f:Nat):Nat->α->aX α:=
 Nat.rec (λ_ _=>.nil) (λ_ aD i x=>Bool.rec (motive:=λ_=>aX α) (Bool.rec (motive:=λ_=>aX α) (.node none .nil (aD (Nat.div (Nat.sub i 1) 2) x)) (.node none (aD (Nat.div (Nat.sub i 1) 2) x) .nil) (Nat.beq (Nat.mod i 2) 1)) (.node (some x) .nil .nil) (Nat.beq i 0)) f
def aX.ins{α:Type}(t:aX α):Nat->α->aX α:=
 aX.rec (λi x=>aX.wL (i+1) i x) (λv l r fY y5 i x=>Bool.rec (motive:=λ_=>aX α) (Bool.rec (motive:=λ_=>aX α) (.node v l (y5 (Nat.div (Nat.sub i 1) 2) x)) (.node v (fY (Nat.div (Nat.sub i 1) 2) x) r) (Nat.beq (Nat.mod i 2) 1))
  (.node (some x) l r) (Nat.beq i 0)) t
def aX.full{α:Type}(f:Nat)(x:α):Nat->aX α:=
 Nat.rec (λ_=>.nil) (λ_ aD n=>cond (Nat.beq n 0) .nil (.node (some x) (aD (Nat.div n 2)) (aD (Nat.div (Nat.sub n 1) 2)))) f
def aX.lay{α:Type}(l:List α):Nat->aX α->aX α:=
 List.rec (λ_ t=>t) (λx _ aD i t=>aD (i+1) (t.set i x)) l
inductive pb where
 |h
 |l (p:pb)
 |r (p:pb)
def uI(f:Nat):Nat->pb:=
 Nat.rec (motive:=λ_=>Nat->pb) (λ_=>.h) (λ_ aD i=>Bool.rec (motive:=λ_=>pb) (Bool.rec (motive:=λ_=>pb) (.r (aD (Nat.div (Nat.sub i 1) 2))) (.l (aD (Nat.div (Nat.sub i 1) 2))) (Nat.beq (Nat.mod i 2) 1)) .h (Nat.beq i 0)) f
def Hr(i:Nat):pb:=uI (Nat.succ i) i
def aX.Cx{α:Type}(p:pb):aX α->Option α:=
 pb.rec (motive:=λ_=>aX α->Option α) (λt=>aX.rec (motive:=λ_=>Option α) none (λv _ _ _ _=>v) t) (λ_ aD t=>aX.rec (motive:=λ_=>Option α) none (λ_ l _ _ _=>aD l) t)
  (λ_ aD t=>aX.rec (motive:=λ_=>Option α) none (λ_ _ r _ _=>aD r) t) p
def aX.Ov{α:Type}(x:α)(p:pb):aX α->aX α:=
 pb.rec (motive:=λ_=>aX α->aX α) (λt=>aX.rec (motive:=λ_=>aX α) .nil (λv l r _ _=>.node (Option.rec (motive:=λ_=>Option α) none (λ_=>some x) v) l r) t)
  (λ_ aD t=>aX.rec (motive:=λ_=>aX α) .nil (λv l r _ _=>.node v (aD l) r) t) (λ_ aD t=>aX.rec (motive:=λ_=>aX α) .nil (λv l r _ _=>.node v l (aD r)) t) p
inductive AO where
 |cells (c:List AV)
 |dead
 |map (es:List (AV×AV×Nat)) (clock:Nat)
 |mapIter (m:Option Nat) (since:Nat) (seen:List Nat) (fZ:Nat)
 |loop (st:LoopState) (pending:Option bF) (a_:aX AV) (aC:List Nat) (assign body:bF) (dN:Nat)
 |dN
 deriving Inhabited
structure ad where
 uJ:aX AO
 next:Nat
 deriving Inhabited
def mapO{α β:Type}(f:α->Option β)(l:List α):Option (List β):=
 List.rec (some []) (λx _ aD=>match f x with|none=>none|some y=>match aD with|none=>none|some a8=>some (y::a8)) l
def nth{α:Type}(l:List α):Nat->Option α:=
 List.rec (λ_=>none) (λx _ aD n=>Nat.rec (some x) (λn _=>aD n) n) l
def eqL(l:List Nat):List Nat->Bool:=
 List.rec (λr=>match r with|[]=>true|_::_=>false) (λx _ aD r=>match r with|[]=>false|y::a8=>cond (Nat.beq x y) (aD a8) false) l
def gT(l:List Nat):List Nat->Bool:=
 List.rec (λr=>match r with|[]=>false|_::_=>true)
  (λx _ aD r=>match r with
   |[]=>false
   |y::a8=>cond (Nat.blt x y) true (cond (Nat.beq x y) (aD a8) false)) l
def ft{α:Type}(f:α->α->Bool)(l:List α):List α->Bool:=
 List.rec (λr=>match r with|[]=>true|_::_=>false) (λx _ aD r=>match r with|[]=>false|y::a8=>cond (f x y) (aD a8) false) l
def ad.get(J:ad)(id:Nat):Option AO:=cond (Nat.blt id J.next) (J.uJ.get id) none
def ad.set(J:ad)(id:Nat)(o:AO):ad:=⟨J.uJ.ins id o,J.next⟩
def ad.push(J:ad)(o:AO):ad:=⟨J.uJ.ins J.next o,J.next+1⟩
def AV.cells:AV->List AV
 | .ag l=>l
 |v=>[v]
def AV.val:AV->Bool
 | .a6 _=>false
 |_=>true
def shN:Option Nat->Nat
 |none=>1
 |some n=>n
def dI(U:Option Nat)(c:List AV):Option AV:=
 match U with
 |none=>c.head?
 |some n=>let l:=c.take n;if l.length=n then some (.ag l) else none
def conf(U:Option Nat)(v:AV):Bool:=
 match U,v with
 |none,.ag _=>false
 |none,.a6 _=>false
 |none,_=>true
 |some n,.ag l=>Nat.beq l.length n
 |some _,_=>false
def elems(U:Option Nat)(n:Nat)(c:List AV):Option (List AV):=
 Nat.rec (motive:=λ_=>List AV->Option (List AV)) (λ_=>some [])
  (λ_ aD c=>match dI U c with
   |none=>none
   |some v=>match aD (c.drop (shN U)) with|none=>none|some bf=>some (v::bf)) n c
def readList(J:ad):AV->Option (List AV)
 | .ae=>some []
 | .a7 _ _ xs=>some xs
 | .al id off len U _=>match J.get id with
  |some (.cells c)=>elems U len (c.drop off)
  |_=>none
 |_=>none
def freeze(J:ad)(base:Nat)(n:Nat):AV->Option AV:=
 Nat.rec (motive:=λ_=>AV->Option AV) (λ_=>none) (λ_ aD v=>
  match v with
  | .al id off len U cap=>if Nat.blt id base then none else
   match readList J (.al id off len U cap) with
   |none=>none
   |some xs=>match mapO aD xs with|none=>none|some xs=>some (.a7 false U xs)
  | .ag l=>match mapO aD l with|none=>none|some l=>some (.ag l)
  | .a6 l=>match mapO aD l with|none=>none|some l=>some (.a6 l)
  | .it t v=>match aD v with|none=>none|some v=>some (.it t v)
  | .p (some _)=>none
  | .m (some _)=>none
  | .f _ _ _=>none
  |v=>some v) n
def bG(J:ad)(n:Nat):AV->Option AV:=
 Nat.rec (motive:=λ_=>AV->Option AV) (λ_=>none) (λ_ aD v=>
  match v with
  | .al id off len U cap=>
   match readList J (.al id off len U cap) with
   |none=>none
   |some xs=>match mapO aD xs with|none=>none|some xs=>some (.a7 true U xs)
  | .ae=>some .ae
  | .a7 _ U xs=>match mapO aD xs with|none=>none|some xs=>some (.a7 true U xs)
  | .ag l=>match mapO aD l with|none=>none|some l=>some (.ag l)
  | .a6 l=>match mapO aD l with|none=>none|some l=>some (.a6 l)
  | .it t v=>match aD v with|none=>none|some v=>some (.it t v)
  | .p (some _)=>none
  | .m (some _)=>none
  | .df _ _=>none
  | .f _ _ _=>none
  | .fs _ i=>some (.fs true i)
  |v=>some v) n
def AV.eqb(n:Nat):AV->AV->Bool:=
 Nat.rec (motive:=λ_=>AV->AV->Bool) (λ_ _=>false) (λ_ aD x y=>
  match x,y with
  | .b x,.b y=>x==y
  | .i k x,.i l y=>decide (k=l)&&decide (x=y)
  | .s x,.s y=>eqL x y
  | .ae,.ae=>true
  | .a7 rG U xs,.a7 cz gu a8=>(rG==cz)&&decide (U=gu)&&ft aD xs a8
  | .dA,.dA=>true
  | .eO,.eO=>true
  | .p none,.p none=>true
  | .p (some x),.p (some y)=>Nat.beq x.1 y.1&&Nat.beq x.2 y.2
  | .m none,.m none=>true
  | .m (some x),.m (some y)=>Nat.beq x y
  | .al a3 bm cv dU en,.al ec dp dO e1 lV=>Nat.beq a3 ec&&Nat.beq bm dp&&Nat.beq cv dO&&decide (dU=e1)&&decide (en=lV)
  | .df rG x,.df cz y=>(rG==cz)&&aD x y
  | .f ay fh x,.f fb Hs y=>decide (ay=fb)&&(ft aD fh Hs&&ft aD x y)
  | .it t x,.it u y=>Nat.beq t u&&aD x y
  | .ag x,.ag y=>ft aD x y
  | .a6 x,.a6 y=>ft aD x y
  | .gk k d j,.gk gv hY qo=>decide (k=gv)&&(Nat.beq d hY&&Nat.beq j qo)
  | .gK x,.gK y=>ft eqL x y
  | .g1 c,.g1 d=>c==d
  | .y c,.y d=>Nat.beq c d
  | .fs rG c,.fs cz d=>(rG==cz)&&Nat.beq c d
  |_,_=>false) n
def n4(a:List Nat)(ex:List (List Nat)):Bool:=List.rec false (λx _ aD=>cond (eqL a x) true aD) ex
def leafEq(kind:Nat)(a b:AV):Option Bool:=
 match kind,a,b with
 |0,.i k a,.i l b=>if k=l then some (decide (a=b)) else none
 |1,.s a,.s b=>some (eqL a b)
 |2,.b x,.b y=>some (x==y)
 |1,.gK ex,.s b=>cond (n4 b ex) (some false) none
 |1,.s a,.gK ex=>cond (n4 a ex) (some false) none
 |_,_,_=>none
def kR(bo:List Nat):List AV->List AV->Option Bool:=
 List.rec (λl r=>match l,r with|[],[]=>some true|_,_=>none)
  (λk _ aD l r=>match l,r with
   |x::xs,y::a8=>match leafEq k x y,aD xs a8 with|some a,some b=>some (a&&b)|_,_=>none
   |_,_=>none) bo
abbrev jh:=Nat ⊕ List Nat
def keyEq(U:jh)(a b:AV):Option Bool:=
 match U with
 | .inl k=>leafEq k a b
 | .inr bo=>match a,b with
  | .ag x,.ag y=>kR bo x y
  |_,_=>none
def keySelf(U:jh)(a:AV):Bool:=
 match U,a with
 | .inl 1,.gK _=>true
 |U,a=>match keyEq U a a with|some _=>true|none=>false
def y6(U:jh)(k:AV)(es:List (AV×AV×Nat)):Option (Option AV):=
 List.rec (some none) (λe _ aD=>match keyEq U k e.1 with|none=>none|some true=>some (some e.2.1)|some false=>aD) es
def n5(U:jh)(k v:AV)(es:List (AV×AV×Nat)):Option (Option (List (AV×AV×Nat))):=
 List.rec (some none) (λe es aD=>match keyEq U k e.1 with
  |none=>none
  |some true=>some (some ((k,v,e.2.2)::es))
  |some false=>match aD with|none=>none|some none=>some none|some (some es)=>some (some (e::es))) es
def storeCells(c:List AV)(off:Nat)(v:List AV):Option (List AV):=
 if Nat.ble (off+v.length) c.length then some (c.take off++(v++c.drop (off+v.length))) else none
def wrapN(k:IntKind)(n:Int):Int:=
 match k,n with
 | .i64,.ofNat x=>cond (Nat.blt x 9223372036854775808) n (k.wrap n)
 |_,n=>k.wrap n
def Ow(op:BinOp)(k:IntKind)(x y:Int):Option Int:=
 let a:=BitVec.ofInt k.bits x
 let b:=BitVec.ofInt k.bits y
 match op with
 | .and=>some (k.wrap (a &&& b).toNat)
 | .or=>some (k.wrap (a ||| b).toNat)
 | .xor=>some (k.wrap (a ^^^ b).toNat)
 | .andNot=>some (k.wrap (a &&& ~~~b).toNat)
 |_=>none
def binI(op:BinOp)(k:IntKind)(x y:Int):Option AV:=
 match op with
 | .add=>some (.i k (wrapN k (x+y)))
 | .sub=>some (.i k (wrapN k (x-y)))
 | .mul=>some (.i k (wrapN k (x*y)))
 | .quo=>if y=0 then none else some (.i k (k.wrap (x.tdiv y)))
 | .rem=>if y=0 then none else some (.i k (x.tmod y))
 | .eql=>some (.b (decide (x=y)))
 | .neq=>some (.b (!decide (x=y)))
 | .lss=>some (.b (decide (x<y)))
 | .leq=>some (.b (decide (x<=y)))
 | .gtr=>some (.b (decide (y<x)))
 | .geq=>some (.b (decide (y<=x)))
 |op=>match Ow op k x y with|some n=>some (.i k n)|none=>none
def binS(op:BinOp)(x y:List Nat):Option AV:=
 match op with
 | .add=>if Nat.blt (x.length+y.length) 4611686018427387904 then some (.s (x++y)) else none
 | .eql=>some (.b (eqL x y))
 | .neq=>some (.b (!eqL x y))
 | .lss=>some (.b (gT x y))
 | .leq=>some (.b (!gT y x))
 | .gtr=>some (.b (gT y x))
 | .geq=>some (.b (!gT x y))
 |_=>none
def sxEq(op:BinOp)(a:List Nat)(ex:List (List Nat)):Option AV:=
 cond (n4 a ex) (match op with| .eql=>some (.b false)| .neq=>some (.b true)|_=>none) none
def umOp(op:BinOp)(k:IntKind)(d j c:Nat):Option AV:=
 cond (Nat.blt 0 c&&(Nat.beq (d%c) 0&&(decide (k= .u8)||decide (k= .i64))))
  (match op with
   | .rem=>some (.i k (Int.ofNat (j%c)))
   | .quo=>some (.gk k (d/c) (j/c))
   |_=>none) none
def binop(op:BinOp)(x y:AV):Option AV:=
 match x,y with
 | .i k a,.i l b=>match op with
  | .shl=>if b<0 then none else some (.i k (k.wrap (a*2^(min b.toNat k.bits))))
  | .shr=>if b<0 then none else some (.i k (a.fdiv (2^(min b.toNat k.bits))))
  |op=>if k=l then binI op k a b else none
 | .s a,.s b=>binS op a b
 | .gk k d j,.i l (.ofNat c)=>if k=l then umOp op k d j c else none
 | .g1 hi,.i l (.ofNat c)=>if l= .i64/\c=40 then(match op with| .gtr=>some (.b hi)| .leq=>some (.b (!hi))|_=>none) else none
 | .s a,.gK ex=>sxEq op a ex
 | .gK ex,.s a=>sxEq op a ex
 |_,_=>none
def binopB(x y:AV):Option Bool:=
 match x,y with
 | .b c,.b d=>some (c==d)
 |_,_=>none
def Cy:List Nat->Nat
 |[]=>1
 |d::ds=>Cy ds*4+d
def Ox(f:Nat):Nat->List Nat:=Nat.rec (motive:=λ_=>Nat->List Nat) (λ_=>[]) (λ_ aD n=>cond (Nat.ble n 1) [] (Nat.mod n 4::aD (Nat.div n 4))) f
def isNilEq(kind:Nat)(x y:AV):Option Bool:=
 match kind,x,y with
 |0,.it _ _,.eO=>some false
 |1,.p (some _),.p none=>some false
 |1,.df _ _,.p none=>some false
 |1,.p none,.p none=>some true
 |2,.f _ _ _,.dA=>some false
 |2,.dA,.dA=>some true
 |3,.ae,.ae=>some true
 |3,.al _ _ _ _ _,.ae=>some false
 |3,.a7 _ _ (_::_),.ae=>some false
 |4,.m none,.m none=>some true
 |4,.m (some _),.m none=>some false
 |k,.ag x,.ag y=>cond (Nat.ble 10 k) (kR (Ox 40 (k-10)) x y) none
 |_,_,_=>none
def natOf:AV->Option Nat
 | .i _ (.ofNat n)=>some n
 |_=>none
def dB:AV:=.a6 []
structure Fr where
 a_:aX AV
 defers:List (Nat ⊕ (AV×List AV)) -- rF mark of a block,or a call
 fi:Bool -- of a deferred call: 'recover' has b8J called
 deriving Inhabited
def Fr.put(ab:Fr)(d:Option Nat)(v:AV):Fr:=
 match d with
 |some d=>⟨ab.a_.set d v,ab.defers,ab.fi⟩
 |none=>ab
def Fr.mC(ab:Fr)(d:Option Nat)(v:AV):Fr:=Option.rec (motive:=λ_=>Fr) ab (λd=>⟨aX.Ov v (Hr d) ab.a_,ab.defers,ab.fi⟩) d
inductive fa where
 |normal|exit (id:Nat)|ret|panic (v:AV)
 deriving Inhabited
inductive dR where
 |ok (v:AV)
 |err (v:AV)
 deriving Inhabited
structure Env where
 funcs:Nat->Option aI
 kS:Nat->Option AV
 pure:Nat->Bool
 spec:Nat->List AV->Option AV
 bn:Nat -- b8K deep values b8L looked at
 ext:Nat->Nat -- 1:b8M,2:b8N,3:b8O;0:none
def evalA(env:Env)(al:aX AV):aF->Option AV
 | .t i=>al.get i
 | .c v=>some v
 | .g g=>match env.kS g with|some v=>some (.df true v)|none=>none
def wM(env:Env)(al:aX AV)(x:aF):Option AV:=
 aF.rec (motive:=λ_=>Option AV) (λi=>aX.Cx (Hr i) al) (λv=>some v) (λg=>match env.kS g with|some v=>some (.df true v)|none=>none) x
inductive bL where
 |val (v:AV) (J:ad)
 |call (cd:AV) (args:List AV)
 |jW (cd:AV) (args:List AV)
 |panic (v:AV)
 |iy (l:List (AV×ad)) -- one of a0p
def mD{α β:Type}(f:α->Option (List β))(l:List α):Option (List β):=
 List.rec (motive:=λ_=>Option (List β)) (some []) (λx t aD=>List.rec (motive:=λ_=>Option (List β)) (f x) (λ_ _ _=>match f x with|none=>none|some a=>match aD with|none=>none|some b=>some (a++b)) t) l
def gw{α β:Type}(r:Option (List α))(f:α->Option (List β)):Option (List β):=Option.rec (motive:=λ_=>Option (List β)) none (λl=>mD f l) r
def iz(n:Nat)(off:Nat):AV:=.p (some (n,off))
def gU(aq:aF->Option AV)(bK:Nat->Nat->Nat)(aC:List (Nat×Nat×aF)):List AV->Option (List AV):=
 List.rec (λc=>some c) (λp _ aD c=>match aq p.2.2 with
  |none=>none
  |some v=>cond (Nat.beq v.cells.length p.2.1&&v.val) (match storeCells c (bK p.1 p.2.1) v.cells with|none=>none|some c=>aD c) none) aC
def f_(n:Nat)(z:List AV):List AV:=Nat.rec [] (λ_ aD=>z++aD) n
def bndO(aq:aF->Option AV)(x:Option aF)(d:Nat):Option Nat:=
 match x with
 |none=>some d
 |some x=>match aq x with|some v=>natOf v|none=>none
def v2(two:Bool)(v:AV)(ok:Bool):AV:=cond two (.a6 [v,.b ok]) v
def nilOk:AV->Bool
 | .p (some _)=>true
 | .df _ _=>true
 | .f _ _ _=>true
 | .it _ _=>true
 |_=>false
def cr{α:Type}(p:α->Bool)(l:List α):Bool:=List.rec true (λx _ aD=>cond (p x) aD false) l
def newOf(J:ad)(x:AV):Option (List AV):=
 match x with
 | .s l=>some (l.map λc=>AV.i .u8 (Int.ofNat c))
 |x=>readList J x
def appendO(floor:Nat)(J:ad)(U:Option Nat)(bytes:Nat)(s x:AV):Option (AV×ad):=
 match readList J s,newOf J x with
 |some old,some new=>
  cond (cr (conf U) old&&cr (conf U) new&&Nat.ble ((3*(old.length+new.length)+2000)*bytes) 281474976710656)
   (match new with
    |[]=>some (s,J)
    |_::_=>match s with
     | .al id off len gu cap=>
      if gu=U then
       match cap with
       |some c=>
        cond (Nat.ble (len+new.length) c)
         (if Nat.blt id floor then none else
         match J.get id with
         |some (.cells qp)=>match storeCells qp (off+len*shN U) (new.flatMap AV.cells) with
          |some gx=>some (.al id off (len+new.length) U cap,J.set id (.cells gx))
          |none=>none
         |_=>none)
         (some (.al J.next 0 (len+new.length) U none,J.push (.cells (old.flatMap AV.cells++new.flatMap AV.cells))))
       |none=>
        if Nat.blt id floor then none else
        if Nat.beq off 0 then
         some (.al J.next 0 (len+new.length) U none,(J.set id .dead).push (.cells (old.flatMap AV.cells++new.flatMap AV.cells)))
        else none
      else none
     | .ae=>some (.al J.next 0 new.length U none,J.push (.cells (new.flatMap AV.cells)))
     |_=>none)
   none
 |_,_=>none
def sliceA(aq:aF->Option AV)(ji:Option Nat)(x:AV)(cF hi fg:Option aF):Option AV:=
 match x with
 | .al id off len U cap=>
  if U=ji then
   match bndO aq cF 0,bndO aq hi len with
   |some l,some h=>
    if Nat.ble l h then
     match fg with
     |some fg=>match bndO aq (some fg) 0 with
      |some k=>
       if Nat.ble h k&&Nat.ble k (cap.getD len) then some (.al id (if k=l then off else off+l*shN U) (h-l) U (some (k-l))) else none
      |none=>none
     |none=>match cap with
      |some c=>if Nat.ble h c then some (.al id (if c=l then off else off+l*shN U) (h-l) U (some (c-l))) else none
      |none=>if Nat.ble h len&&Nat.beq l 0 then some (.al id off h U none) else if Nat.ble h len&&Nat.blt l len then some (.al id (off+l*shN U) (h-l) U none) else if Nat.beq l len&&Nat.beq h len then some (.a7 true U []) else none
    else none
   |_,_=>none
  else none
 | .ae=>match bndO aq cF 0,bndO aq hi 0,bndO aq fg 0 with
  |some 0,some 0,some 0=>some .ae
  |_,_,_=>none
 | .a7 o U xs=>if U=ji then
   match bndO aq cF 0,bndO aq hi xs.length,fg with
   |some l,some h,none=>if Nat.ble l h&&Nat.ble h xs.length then some (.a7 o U ((xs.drop l).take (h-l))) else none
   |_,_,_=>none
  else none
 |_=>none
def lookupA(J:ad)(U:jh)(x k z:AV)(two:Bool):Option AV:=
 cond (keySelf U k)
  (match x with
  | .m none=>some (v2 two z false)
  | .m (some id)=>match J.get id with
   |some (.map es _)=>match y6 U k es with
    |some (some v)=>some (v2 two v true)
    |some none=>some (v2 two z false)
    |none=>none
   |_=>none
  |_=>none) none
def capA(x:AV):Option Nat:=
 match x with
 | .ae=>some 0
 | .al _ _ _ _ (some c)=>some c
 |_=>none
def lenA(J:ad)(k:Nat)(x:AV):Option Nat:=
 match k,x with
 |0,.s l=>some l.length
 |1,.ae=>some 0
 |1,.al _ _ n _ _=>some n
 |1,.a7 _ _ xs=>some xs.length
 |2,.m none=>some 0
 |2,.m (some id)=>match J.get id with|some (.map es _)=>some es.length|_=>none
 |_,_=>none
def calleeV(aq:aF->Option AV)(c:qm):Option AV:=match c with| .fn f=>some (AV.f (.func f) [] [])| .val x=>aq x
def pc(J:ad)(U:Option Nat)(p:AV):Option AV:=
 match p with
 | .p (some (id,off))=>match J.get id with
  |some (.cells c)=>dI U (c.drop off)
  |_=>none
 | .df _ v=>if conf U v then some v else none
 |_=>none
def fieldAddrA(off:Nat)(U:Option Nat)(x:AV):Option AV:=
 match x with
 | .p (some (id,o))=>some (.p (some (id,o+off)))
 | .df ol (.ag cs)=>match dI U (cs.drop off) with|some v=>some (.df ol v)|none=>none
 |_=>none
def idxSlA(ji:Option Nat)(x:AV)(j:Nat):Option AV:=
 match x with
 | .al id off len U _=>if Nat.blt j len&&decide (U=ji) then some (.p (some (id,off+j*shN U))) else none
 | .a7 o U xs=>if U=ji then match nth xs j with|some v=>some (.df o v)|none=>none else none
 |_=>none
def assertA(x:AV)(t:TypeId)(z:AV)(two:Bool):Option AV:=
 match x with
 | .it u v=>if u=t then some (v2 two v true) else cond two (some (v2 two z false)) none
 | .eO=>cond two (some (v2 two z false)) none
 |_=>none
def byteOf:AV->Option Nat
 | .i .u8 (.ofNat n)=>cond (Nat.blt n 256) (some n) none
 |_=>none
def mE(n:Nat)(l:List Nat):Bool:=List.rec false (λx _ aD=>cond (Nat.beq x n) true aD) l
def kT(seen:List Nat)(es:List (AV×AV×Nat)):List (AV×AV×Nat):=List.rec [] (λe _ aD=>cond (mE e.2.2 seen) aD (e::aD)) es
def n6(l:List Nat):Option Nat:=List.rec none (λx _ aD=>match aD with|none=>some x|some y=>some y) l
def ng(b:Nat)(es:List (AV×AV×Nat)):Option (AV×AV×Nat):=List.rec none (λe _ aD=>cond (Nat.beq e.2.2 b) (some e) aD) es
def lenU(J:ad)(k:Nat)(x:AV):Option bL:=
 match k,x with
 |0,.gK _=>some (.iy [(.g1 true,J),(.g1 false,J)])
 |_,_=>none
def opx(floor:Nat)(aq:aF->Option AV)(J:ad)(op:AOp):Option bL:=
 match op with
 | .bx x=>match aq x with|some v=>some (.val v J)|none=>none
 | .pick c a b=>match aq c with
  |some (.b t)=>match aq (cond t a b) with|some v=>some (.val v J)|none=>none
  |_=>none
 | .alloc v=>some (.val (iz J.next 0) (J.push (.cells v.cells)))
 | .box x=>match aq x with|some v=>cond v.val (some (.val (iz J.next 0) (J.push (.cells v.cells)))) none|none=>none
 | .build z aC=>match gU aq (λoff _=>off) aC z with|some c=>some (.val (.ag c) J)|none=>none
 | .buildSlice U n z aC=>
  match gU aq (λi bK=>i*bK) (aC.map λp=>(p.1,shN U,p.2)) (f_ n z) with
  |some c=>some (.val (.al J.next 0 n U (some n)) (J.push (.cells c)))
  |none=>none
 | .load U a=>match aq a with
  |some p=>match pc J U p with|some v=>some (.val v J)|none=>none
  |none=>none
 | .store U a x=>match aq a,aq x with
  |some (.p (some (id,off))),some v=>
   if Nat.blt id floor then none else
   if conf U v then
    match J.get id with
    |some (.cells c)=>match storeCells c off v.cells with
     |some c=>some (.val dB (J.set id (.cells c)))
     |none=>none
    |_=>none
   else none
  |_,_=>none
 | .nilCheck x=>match aq x with
  |some v=>cond (nilOk v) (some (.val v J)) none
  |none=>none
 | .bin op x y=>match aq x,aq y with
  |some a,some b=>match binop op a b with|some v=>some (.val v J)|none=>none
  |_,_=>none
 | .wJ neg x y=>match aq x,aq y with
  |some a,some b=>match binopB a b with|some v=>some (.val (.b (cond neg (!v) v)) J)|none=>none
  |_,_=>none
 | .iQ kind neg x y=>match aq x,aq y with
  |some a,some b=>match isNilEq kind a b with|some v=>some (.val (.b (cond neg (!v) v)) J)|none=>none
  |_,_=>none
 | .not x=>match aq x with|some (.b x)=>some (.val (.b !x) J)|_=>none
 | .neg x=>match aq x with|some (.i k n)=>some (.val (.i k (k.wrap (0-n))) J)|_=>none
 | .conv k x=>match aq x with|some (.i _ n)=>some (.val (.i k (wrapN k n)) J)|some (.gk _ d j)=>(match k with| .i64=>some (.val (.gk .i64 d j) J)|_=>none)|_=>none
 | .Cu t x=>match aq x with|some v=>some (.val (.it t v) J)|none=>none
 | .e_ fn a c=>match mapO aq a,mapO aq c with|some a,some c=>some (.val (.f fn a c) J)|_,_=>none
 | .mkMap=>some (.val (.m (some J.next)) (J.push (.map [] 0)))
 | .ks ji x cF hi fg=>match aq x with
  |some x=>match sliceA aq ji x cF hi fg with|some v=>some (.val v J)|none=>none
  |none=>none
 | .hz x cF hi=>match aq x with
  |some (.s s)=>match bndO aq cF 0,bndO aq hi s.length with
   |some l,some h=>if Nat.ble l h&&Nat.ble h s.length then some (.val (.s ((s.drop l).take (h-l))) J) else none
   |_,_=>none
  |_=>none
 | .sV n U x cF hi=>match aq x,bndO aq cF 0,bndO aq hi n with
  |some (.p (some (id,off))),some l,some h=>
   if Nat.ble l h&&Nat.ble h n then
    match J.get id with
    |some (.cells c)=>if Nat.ble (off+n*shN U) c.length then some (.val (.al id (if n=l then off else off+l*shN U) (h-l) U (some (n-l))) J) else none
    |_=>none
   else none
  |_,_,_=>none
 | .fieldAddr off U x=>match aq x with
  |some x=>match fieldAddrA off U x with|some v=>some (.val v J)|none=>none
  |none=>none
 | .field off U x=>match aq x with
  |some (.ag cs)=>match dI U (cs.drop off) with|some v=>some (.val v J)|none=>none
  |_=>none
 | .pa n U x i=>match aq x,aq i with
  |some x,some j=>match natOf j with
   |some j=>if Nat.blt j n then match fieldAddrA (j*shN U) U x with|some v=>some (.val v J)|none=>none else none
   |none=>none
  |_,_=>none
 | .bl ji x i=>match aq x,aq i with
  |some x,some j=>match natOf j with
   |some j=>match idxSlA ji x j with|some v=>some (.val v J)|none=>none
   |none=>none
  |_,_=>none
 | .jV x i=>match aq x,aq i with
  |some (.s l),some j=>match natOf j with
   |some j=>match nth l j with|some c=>some (.val (.i .u8 (Int.ofNat c)) J)|none=>none
   |none=>none
  |_,_=>none
 | .wK n U x i=>match aq x,aq i with
  |some (.ag cs),some j=>match natOf j with
   |some j=>if Nat.blt j n then match dI U (cs.drop (j*shN U)) with|some v=>some (.val v J)|none=>none else none
   |none=>none
  |_,_=>none
 | .lookup U x k z two=>match aq x,aq k with
  |some x,some k=>match lookupA J U x k z two with|some v=>some (.val v J)|none=>none
  |_,_=>none
 | .iR U x k v=>match aq x,aq k,aq v with
  |some (.m (some id)),some k,some v=>
   if Nat.blt id floor then none else
   match J.get id with
   |some (.map es an)=>match keyEq U k k with
    |none=>none
    |some _=>match n5 U k v es with
    |some (some es)=>some (.val dB (J.set id (.map es an)))
    |some none=>some (.val dB (J.set id (.map (es++[(k,v,an)]) (an+1))))
    |none=>none
   |_=>none
  |_,_,_=>none
 | .Cv x t z two=>match aq x with
  |some x=>match assertA x t z two with|some v=>some (.val v J)|none=>none
  |none=>none
 | .extract x i=>match aq x with
  |some (.a6 l)=>match nth l i with|some v=>some (.val v J)|none=>none
  |_=>none
 | .call c args=>match calleeV aq c,mapO aq args with
  |some cd,some args=>some (.call cd args)
  |_,_=>none
 | .jW c args=>match calleeV aq c,mapO aq args with
  |some cd,some args=>some (.jW cd args)
  |_,_=>none
 | .panic x=>match aq x with|some (.it t v)=>some (.panic (.it t v))|_=>none
 | .len k x=>match aq x with
  |some x=>match lenA J k x with|some n=>some (.val (.i .i64 (Int.ofNat n)) J)|none=>lenU J k x
  |none=>none
 | .Cw n=>some (.val (.i .i64 (Int.ofNat n)) J)
 | .cap x=>match aq x with
  |some x=>match capA x with|some n=>some (.val (.i .i64 (Int.ofNat n)) J)|none=>none
  |none=>none
 | .append U bytes s x=>match aq s,aq x with
  |some s,some x=>match appendO floor J U bytes s x with|some (v,J)=>some (.val v J)|none=>none
  |_,_=>none
 | .y3 x=>match aq x with
  |some (.s l)=>some (.val (.al J.next 0 l.length none none) (J.push (.cells (l.map λc=>AV.i .u8 (Int.ofNat c)))))
  |_=>none
 | .Ct x=>match aq x with
  |some x=>match readList J x with
   |some l=>match mapO byteOf l with
    |some l=>some (.val (.s l) J)
    |none=>none
   |none=>none
  |none=>none
 | .mkSlice U bytes z l c=>match aq l,aq c with
  |some (.i _ (.ofNat n)),some (.i _ (.ofNat m))=>
   cond (Nat.beq z.length (shN U)&&(Nat.ble n m&&(Nat.ble (bytes*m) 281474976710656&&Nat.ble m 281474976710656)))
    (some (.val (.al J.next 0 n U (some m)) (J.push (.cells (f_ m z))))) none
  |some .ae,some (.i _ (.ofNat m))=>
   cond (Nat.beq z.length (Nat.succ (shN U))&&(Nat.blt 0 m&&Nat.ble ((3*m+2000)*bytes) 281474976710656))
    (some (.val (.al J.next 0 m U none) (J.push (.cells (f_ m z.tail))))) none
  |_,_=>none
 | .rangeMap x=>match aq x with
  |some (.m none)=>some (.val (iz J.next 0) (J.push (.mapIter none 0 [] 0)))
  |some (.m (some id))=>match J.get id with
   |some (.map _ an)=>some (.val (iz J.next 0) (J.push (.mapIter (some id) an [] an)))
   |_=>none
  |_=>none
 | .qn x=>match aq x with
  |some (.p (some (it,0)))=>if Nat.blt it floor then none else
   match J.get it with
   |some (.mapIter none _ _ _)=>some (.val (.a6 [.b false]) J)
   |some (.mapIter (some id) since seen fZ)=>match J.get id with
    |some (.map es an)=>
     cond (Nat.beq an since&&Nat.beq fZ since&&cr (λ(e:AV×AV×Nat)=>Nat.blt e.2.2 since) es)
      (match kT seen es with
       |[]=>some (.val (.a6 [.b false]) J)
       |l=>some (.iy (l.map λe=>(.a6 [.b true,e.1,e.2.1],J.set it (.mapIter (some id) since (seen++[e.2.2]) an))))) none
    |_=>none
   |_=>none
  |_=>none
 | .entry x=>match aq x with
  |some (.p (some (it,0)))=>match J.get it with
   |some (.mapIter (some id) since seen fZ)=>match J.get id with
    |some (.map es an)=>cond (Nat.beq an fZ) (match n6 seen with
     |some b=>match ng b es with
      |some e=>some (.val (.a6 [e.1,e.2.1]) J)
      |none=>none
     |none=>none) none
    |_=>none
   |_=>none
  |_=>none
 | .copy _ d x=>match aq d,aq x with
  |some (.al _ _ 0 _ _),some (.ag _)=>some (.val dB J)
  |some (.al id off (len+1) _ _),some (.ag z)=>match Nat.blt id floor,J.get id with
   |false,some (.cells c)=>match storeCells c off (f_ (len+1) z) with
    |some c=>some (.val dB (J.set id (.cells c)))
    |none=>none
   |_,_=>none
  |some .ae,some (.ag _)=>some (.val dB J)
  |some (.a7 _ _ []),some (.ag _)=>some (.val dB J)
  |_,_=>none
 | .y4 fg x y=>match aq x,aq y with
  |some (.i k a),some (.i l b)=>if k=l then some (.val (.i k (if fg then(if b > a then b else a) else(if b<a then b else a))) J) else none
  |_,_=>none
 |_=>none
abbrev Ht:=Nat->(aF->Option AV)->ad->Option bL
def a0r(x:aF)(floor:Nat)(aq:aF->Option AV)(J:ad):Option bL:=
  match aq x with|some v=>some (.val v J)|none=>none
def a0s(c:aF)(a:aF)(b:aF)(floor:Nat)(aq:aF->Option AV)(J:ad):Option bL:=
  match aq c with
  |some (.b t)=>match aq (cond t a b) with|some v=>some (.val v J)|none=>none
  |_=>none
def a0t(v:AV)(floor:Nat)(aq:aF->Option AV)(J:ad):Option bL:=
  some (.val (iz J.next 0) (J.push (.cells v.cells)))
def a0u(x:aF)(floor:Nat)(aq:aF->Option AV)(J:ad):Option bL:=
  match aq x with|some v=>cond v.val (some (.val (iz J.next 0) (J.push (.cells v.cells)))) none|none=>none
def a0v(z:List AV)(aC:List (Nat×Nat×aF))(floor:Nat)(aq:aF->Option AV)(J:ad):Option bL:=
  match gU aq (λoff _=>off) aC z with|some c=>some (.val (.ag c) J)|none=>none
def a0w(U:Option Nat)(n:Nat)(z:List AV)(aC:List (Nat×aF))(floor:Nat)(aq:aF->Option AV)(J:ad):Option bL:=
  match gU aq (λi bK=>i*bK) (aC.map λp=>(p.1,shN U,p.2)) (f_ n z) with
  |some c=>some (.val (.al J.next 0 n U (some n)) (J.push (.cells c)))
  |none=>none
def a0x(U:Option Nat)(a:aF)(floor:Nat)(aq:aF->Option AV)(J:ad):Option bL:=
  match aq a with
  |some p=>match pc J U p with|some v=>some (.val v J)|none=>none
  |none=>none
def a0y(U:Option Nat)(a:aF)(x:aF)(floor:Nat)(aq:aF->Option AV)(J:ad):Option bL:=
  match aq a,aq x with
  |some (.p (some (id,off))),some v=>
   if Nat.blt id floor then none else
   if conf U v then
    match J.get id with
    |some (.cells c)=>match storeCells c off v.cells with
     |some c=>some (.val dB (J.set id (.cells c)))
     |none=>none
    |_=>none
   else none
  |_,_=>none
def a0z(x:aF)(floor:Nat)(aq:aF->Option AV)(J:ad):Option bL:=
  match aq x with
  |some v=>cond (nilOk v) (some (.val v J)) none
  |none=>none
def a0A(op:BinOp)(x:aF)(y:aF)(floor:Nat)(aq:aF->Option AV)(J:ad):Option bL:=
  match aq x,aq y with
  |some a,some b=>match binop op a b with|some v=>some (.val v J)|none=>none
  |_,_=>none
def a0B(neg:Bool)(x:aF)(y:aF)(floor:Nat)(aq:aF->Option AV)(J:ad):Option bL:=
  match aq x,aq y with
  |some a,some b=>match binopB a b with|some v=>some (.val (.b (cond neg (!v) v)) J)|none=>none
  |_,_=>none
def a0C(kind:Nat)(neg:Bool)(x:aF)(y:aF)(floor:Nat)(aq:aF->Option AV)(J:ad):Option bL:=
  match aq x,aq y with
  |some a,some b=>match isNilEq kind a b with|some v=>some (.val (.b (cond neg (!v) v)) J)|none=>none
  |_,_=>none
def a0D(x:aF)(floor:Nat)(aq:aF->Option AV)(J:ad):Option bL:=
  match aq x with|some (.b x)=>some (.val (.b !x) J)|_=>none
def a0E(x:aF)(floor:Nat)(aq:aF->Option AV)(J:ad):Option bL:=
  match aq x with|some (.i k n)=>some (.val (.i k (k.wrap (0-n))) J)|_=>none
def a0F(k:IntKind)(x:aF)(floor:Nat)(aq:aF->Option AV)(J:ad):Option bL:=
  match aq x with|some (.i _ n)=>some (.val (.i k (wrapN k n)) J)|some (.gk _ d j)=>(match k with| .i64=>some (.val (.gk .i64 d j) J)|_=>none)|_=>none
def a0G(t:TypeId)(x:aF)(floor:Nat)(aq:aF->Option AV)(J:ad):Option bL:=
  match aq x with|some v=>some (.val (.it t v) J)|none=>none
def a0H(fn:Fn)(a:List aF)(c:List aF)(floor:Nat)(aq:aF->Option AV)(J:ad):Option bL:=
  match mapO aq a,mapO aq c with|some a,some c=>some (.val (.f fn a c) J)|_,_=>none
def a0I(floor:Nat)(aq:aF->Option AV)(J:ad):Option bL:=
  some (.val (.m (some J.next)) (J.push (.map [] 0)))
def a0J(ji:Option Nat)(x:aF)(cF:Option aF)(hi:Option aF)(fg:Option aF)(floor:Nat)(aq:aF->Option AV)(J:ad):Option bL:=
  match aq x with
  |some x=>match sliceA aq ji x cF hi fg with|some v=>some (.val v J)|none=>none
  |none=>none
def a0K(x:aF)(cF:Option aF)(hi:Option aF)(floor:Nat)(aq:aF->Option AV)(J:ad):Option bL:=
  match aq x with
  |some (.s s)=>match bndO aq cF 0,bndO aq hi s.length with
   |some l,some h=>if Nat.ble l h&&Nat.ble h s.length then some (.val (.s ((s.drop l).take (h-l))) J) else none
   |_,_=>none
  |_=>none
def a0L(n:Nat)(U:Option Nat)(x:aF)(cF:Option aF)(hi:Option aF)(floor:Nat)(aq:aF->Option AV)(J:ad):Option bL:=
  match aq x,bndO aq cF 0,bndO aq hi n with
  |some (.p (some (id,off))),some l,some h=>
   if Nat.ble l h&&Nat.ble h n then
    match J.get id with
    |some (.cells c)=>if Nat.ble (off+n*shN U) c.length then some (.val (.al id (if n=l then off else off+l*shN U) (h-l) U (some (n-l))) J) else none
    |_=>none
   else none
  |_,_,_=>none
def a0M(off:Nat)(U:Option Nat)(x:aF)(floor:Nat)(aq:aF->Option AV)(J:ad):Option bL:=
  match aq x with
  |some x=>match fieldAddrA off U x with|some v=>some (.val v J)|none=>none
  |none=>none
def a0N(off:Nat)(U:Option Nat)(x:aF)(floor:Nat)(aq:aF->Option AV)(J:ad):Option bL:=
  match aq x with
  |some (.ag cs)=>match dI U (cs.drop off) with|some v=>some (.val v J)|none=>none
  |_=>none
def a0O(n:Nat)(U:Option Nat)(x:aF)(i:aF)(floor:Nat)(aq:aF->Option AV)(J:ad):Option bL:=
  match aq x,aq i with
  |some x,some j=>match natOf j with
   |some j=>if Nat.blt j n then match fieldAddrA (j*shN U) U x with|some v=>some (.val v J)|none=>none else none
   |none=>none
  |_,_=>none
def a0P(ji:Option Nat)(x:aF)(i:aF)(floor:Nat)(aq:aF->Option AV)(J:ad):Option bL:=
  match aq x,aq i with
  |some x,some j=>match natOf j with
   |some j=>match idxSlA ji x j with|some v=>some (.val v J)|none=>none
   |none=>none
  |_,_=>none
def a0Q(x:aF)(i:aF)(floor:Nat)(aq:aF->Option AV)(J:ad):Option bL:=
  match aq x,aq i with
  |some (.s l),some j=>match natOf j with
   |some j=>match nth l j with|some c=>some (.val (.i .u8 (Int.ofNat c)) J)|none=>none
   |none=>none
  |_,_=>none
def a0R(n:Nat)(U:Option Nat)(x:aF)(i:aF)(floor:Nat)(aq:aF->Option AV)(J:ad):Option bL:=
  match aq x,aq i with
  |some (.ag cs),some j=>match natOf j with
   |some j=>if Nat.blt j n then match dI U (cs.drop (j*shN U)) with|some v=>some (.val v J)|none=>none else none
   |none=>none
  |_,_=>none
def a0S(U:Nat ⊕ List Nat)(x:aF)(k:aF)(z:AV)(two:Bool)(floor:Nat)(aq:aF->Option AV)(J:ad):Option bL:=
  match aq x,aq k with
  |some x,some k=>match lookupA J U x k z two with|some v=>some (.val v J)|none=>none
  |_,_=>none
def a0T(U:Nat ⊕ List Nat)(x:aF)(k:aF)(v:aF)(floor:Nat)(aq:aF->Option AV)(J:ad):Option bL:=
  match aq x,aq k,aq v with
  |some (.m (some id)),some k,some v=>
   if Nat.blt id floor then none else
   match J.get id with
   |some (.map es an)=>match keyEq U k k with
    |none=>none
    |some _=>match n5 U k v es with
    |some (some es)=>some (.val dB (J.set id (.map es an)))
    |some none=>some (.val dB (J.set id (.map (es++[(k,v,an)]) (an+1))))
    |none=>none
   |_=>none
  |_,_,_=>none
def a0U(x:aF)(t:TypeId)(z:AV)(two:Bool)(floor:Nat)(aq:aF->Option AV)(J:ad):Option bL:=
  match aq x with
  |some x=>match assertA x t z two with|some v=>some (.val v J)|none=>none
  |none=>none
def a0V(x:aF)(i:Nat)(floor:Nat)(aq:aF->Option AV)(J:ad):Option bL:=
  match aq x with
  |some (.a6 l)=>match nth l i with|some v=>some (.val v J)|none=>none
  |_=>none
def a0W(c:qm)(args:List aF)(floor:Nat)(aq:aF->Option AV)(J:ad):Option bL:=
  match calleeV aq c,mapO aq args with
  |some cd,some args=>some (.call cd args)
  |_,_=>none
def a0X(c:qm)(args:List aF)(floor:Nat)(aq:aF->Option AV)(J:ad):Option bL:=
  match calleeV aq c,mapO aq args with
  |some cd,some args=>some (.jW cd args)
  |_,_=>none
def a0Y(x:aF)(floor:Nat)(aq:aF->Option AV)(J:ad):Option bL:=
  match aq x with|some (.it t v)=>some (.panic (.it t v))|_=>none
def a0Z(k:Nat)(x:aF)(floor:Nat)(aq:aF->Option AV)(J:ad):Option bL:=
  match aq x with
  |some x=>match lenA J k x with|some n=>some (.val (.i .i64 (Int.ofNat n)) J)|none=>lenU J k x
  |none=>none
def a1a(n:Nat)(floor:Nat)(aq:aF->Option AV)(J:ad):Option bL:=
  some (.val (.i .i64 (Int.ofNat n)) J)
def a1b(x:aF)(floor:Nat)(aq:aF->Option AV)(J:ad):Option bL:=
  match aq x with
  |some x=>match capA x with|some n=>some (.val (.i .i64 (Int.ofNat n)) J)|none=>none
  |none=>none
def a1c(U:Option Nat)(bytes:Nat)(s:aF)(x:aF)(floor:Nat)(aq:aF->Option AV)(J:ad):Option bL:=
  match aq s,aq x with
  |some s,some x=>match appendO floor J U bytes s x with|some (v,J)=>some (.val v J)|none=>none
  |_,_=>none
def a1d(x:aF)(floor:Nat)(aq:aF->Option AV)(J:ad):Option bL:=
  match aq x with
  |some (.s l)=>some (.val (.al J.next 0 l.length none none) (J.push (.cells (l.map λc=>AV.i .u8 (Int.ofNat c)))))
  |_=>none
def a1e(x:aF)(floor:Nat)(aq:aF->Option AV)(J:ad):Option bL:=
  match aq x with
  |some x=>match readList J x with
   |some l=>match mapO byteOf l with
    |some l=>some (.val (.s l) J)
    |none=>none
   |none=>none
  |none=>none
def a1f(U:Option Nat)(bytes:Nat)(z:List AV)(l:aF)(c:aF)(floor:Nat)(aq:aF->Option AV)(J:ad):Option bL:=
  match aq l,aq c with
  |some (.i _ (.ofNat n)),some (.i _ (.ofNat m))=>
   cond (Nat.beq z.length (shN U)&&(Nat.ble n m&&(Nat.ble (bytes*m) 281474976710656&&Nat.ble m 281474976710656)))
    (some (.val (.al J.next 0 n U (some m)) (J.push (.cells (f_ m z))))) none
  |some .ae,some (.i _ (.ofNat m))=>
   cond (Nat.beq z.length (Nat.succ (shN U))&&(Nat.blt 0 m&&Nat.ble ((3*m+2000)*bytes) 281474976710656))
    (some (.val (.al J.next 0 m U none) (J.push (.cells (f_ m z.tail))))) none
  |_,_=>none
def a1g(x:aF)(floor:Nat)(aq:aF->Option AV)(J:ad):Option bL:=
  match aq x with
  |some (.m none)=>some (.val (iz J.next 0) (J.push (.mapIter none 0 [] 0)))
  |some (.m (some id))=>match J.get id with
   |some (.map _ an)=>some (.val (iz J.next 0) (J.push (.mapIter (some id) an [] an)))
   |_=>none
  |_=>none
def a1h(x:aF)(floor:Nat)(aq:aF->Option AV)(J:ad):Option bL:=
  match aq x with
  |some (.p (some (it,0)))=>if Nat.blt it floor then none else
   match J.get it with
   |some (.mapIter none _ _ _)=>some (.val (.a6 [.b false]) J)
   |some (.mapIter (some id) since seen fZ)=>match J.get id with
    |some (.map es an)=>
     cond (Nat.beq an since&&Nat.beq fZ since&&cr (λ(e:AV×AV×Nat)=>Nat.blt e.2.2 since) es)
      (match kT seen es with
       |[]=>some (.val (.a6 [.b false]) J)
       |l=>some (.iy (l.map λe=>(.a6 [.b true,e.1,e.2.1],J.set it (.mapIter (some id) since (seen++[e.2.2]) an))))) none
    |_=>none
   |_=>none
  |_=>none
def a1i(x:aF)(floor:Nat)(aq:aF->Option AV)(J:ad):Option bL:=
  match aq x with
  |some (.p (some (it,0)))=>match J.get it with
   |some (.mapIter (some id) since seen fZ)=>match J.get id with
    |some (.map es an)=>cond (Nat.beq an fZ) (match n6 seen with
     |some b=>match ng b es with
      |some e=>some (.val (.a6 [e.1,e.2.1]) J)
      |none=>none
     |none=>none) none
    |_=>none
   |_=>none
  |_=>none
def a1j(_sh:Option Nat)(d:aF)(x:aF)(floor:Nat)(aq:aF->Option AV)(J:ad):Option bL:=
  match aq d,aq x with
  |some (.al _ _ 0 _ _),some (.ag _)=>some (.val dB J)
  |some (.al id off (len+1) _ _),some (.ag z)=>match Nat.blt id floor,J.get id with
   |false,some (.cells c)=>match storeCells c off (f_ (len+1) z) with
    |some c=>some (.val dB (J.set id (.cells c)))
    |none=>none
   |_,_=>none
  |some .ae,some (.ag _)=>some (.val dB J)
  |some (.a7 _ _ []),some (.ag _)=>some (.val dB J)
  |_,_=>none
def a1k(fg:Bool)(x:aF)(y:aF)(floor:Nat)(aq:aF->Option AV)(J:ad):Option bL:=
  match aq x,aq y with
  |some (.i k a),some (.i l b)=>if k=l then some (.val (.i k (if fg then(if b > a then b else a) else(if b<a then b else a))) J) else none
  |_,_=>none
def Oy:Ht:=λ_ _ _=>none
def qq(op:AOp):Ht:=
 AOp.rec (motive:=λ_=>Ht) a0r a0s a0t a0u a0v a0w a0x a0y a0z a0A a0B a0C a0D a0E a0F a1d a1e a0G a0H a0I a1f a0L a0J a0K a0M a0N a0O a0P a0Q a0R a0S a0T a1g a1h a1i a0U a0V a0W a0X a0Y a1c a0Z a1a a1b a1j a1k Oy Oy op
def AOp.isRec(op:AOp):Bool:=
 AOp.rec (motive:=λ_=>Bool) (λ_=>false) (λ_ _ _=>false) (λ_=>false) (λ_=>false) (λ_ _=>false) (λ_ _ _ _=>false) (λ_ _=>false) (λ_ _ _=>false) (λ_=>false) (λ_ _ _=>false) (λ_ _ _=>false) (λ_ _ _ _=>false) (λ_=>false) (λ_=>false) (λ_ _=>false) (λ_=>false) (λ_=>false) (λ_ _=>false) (λ_ _ _=>false) false (λ_ _ _ _ _=>false) (λ_ _ _ _ _=>false) (λ_ _ _ _ _=>false) (λ_ _ _=>false) (λ_ _ _=>false) (λ_ _ _=>false) (λ_ _ _ _=>false) (λ_ _ _=>false) (λ_ _=>false) (λ_ _ _ _=>false) (λ_ _ _ _ _=>false) (λ_ _ _ _=>false) (λ_=>false) (λ_=>false) (λ_=>false) (λ_ _ _ _=>false) (λ_ _=>false) (λ_ _=>false) (λ_ _=>false) (λ_=>false) (λ_ _ _ _=>false) (λ_ _=>false) (λ_=>false) (λ_=>false) (λ_ _ _=>false) (λ_ _ _=>false) true false op
def wantedA(g:Option (Nat×Bool))(al:aX AV):Bool:=
 match g with
 |none=>true
 |some (d,w)=>match al.get d with
  |some (.b x)=>x==w
  |_=>false
def Cz(g:Option (Nat×Bool))(al:aX AV):Bool:=
 Option.rec (motive:=λ_=>Bool) true (λp=>match aX.Cx (Hr p.1) al with
  |some (.b x)=>x==p.2
  |_=>false) g
abbrev hZ:=Nat->Option Nat->bF->Fr->ad->Option (List (fa×Fr×ad))
def resultOf(J:ad)(al:aX AV)(r:Nat×Option (Option Nat)):Option AV:=
 match al.get r.1,r.2 with
 |some v,none=>some v
 |some (.p (some (id,off))),some U=>match J.get id with
  |some (.cells c)=>dI U (c.drop off)
  |_=>none
 |_,_=>none
def resultsOf(J:ad)(al:aX AV)(rs:List (Nat×Option (Option Nat))):Option AV:=
 match mapO (resultOf J al) rs with
 |some [v]=>some v
 |some bf=>some (.a6 bf)
 |none=>none
def rH(fn:aI)(args:List AV):Fr:=⟨aX.lay args 0 (aX.full fn.ntmps dB fn.ntmps),[],false⟩
def isFn:AV->Bool
 | .f (.func _) _ _=>true
 |_=>false
def pd(env:Env)(floor:Nat)(call:AV->List AV->ad->Option (dR×ad))(rc:Option AV)(du:Bool)(ops:List aY):Fr->ad->Option (fa×Fr×ad):=
 List.rec (λab J=>some (.normal,ab,J)) (λo _ aD ab J=>
  cond (wantedA o.guard ab.a_)
   (cond o.op.isRec
    (match rc with
     |some v=>aD (Fr.put ⟨ab.a_,ab.defers,true⟩ o.dst (cond ab.fi .eO v)) J
     |none=>none)
    (match qq o.op floor (evalA env ab.a_) J with
     |some (.val v J)=>aD (ab.put o.dst v) J
     |some (.call cd args)=>match call cd args J with
      |some (.ok v,J)=>aD (ab.put o.dst v) J
      |some (.err v,J)=>some (.panic v,ab,J)
      |none=>none
     |some (.jW cd args)=>cond (du&&isFn cd) (aD (Fr.put ⟨ab.a_,.inr (cd,args)::ab.defers,ab.fi⟩ o.dst dB) J) none
     |some (.panic v)=>some (.panic v,ab,J)
     |some (.iy _)=>none
     |none=>none))
   (aD (ab.put o.dst dB) J)) ops
abbrev lr:=List (fa×Fr×ad)
abbrev kU:=AV->List AV->ad->Option (List (dR×ad))
def runOps(env:Env)(floor:Nat)(call:kU)(du:Bool)(ops:List aY):Fr->ad->Option lr:=
 List.rec (motive:=λ_=>Fr->ad->Option lr) (λab J=>some [(.normal,ab,J)]) (λo _ aD ab J=>
  Bool.rec (motive:=λ_=>Option lr) (aD (ab.mC o.dst dB) J)
   (Option.rec (motive:=λ_=>Option lr) none (λr=>bL.rec (motive:=λ_=>Option lr)
    (λv J=>aD (ab.mC o.dst v) J)
    (λcd args=>gw (call cd args J) (λr=>match r with
     |(.ok v,J)=>aD (ab.mC o.dst v) J
     |(.err v,J)=>some [(.panic v,ab,J)]))
    (λcd args=>cond (du&&isFn cd) (aD (Fr.mC ⟨ab.a_,.inr (cd,args)::ab.defers,ab.fi⟩ o.dst dB) J) none)
    (λv=>some [(.panic v,ab,J)])
    (λl=>mD (λp=>aD (ab.mC o.dst p.1) p.2) l) r)
    (qq o.op floor (wM env ab.a_) J))
   (Cz o.guard ab.a_)) ops
def AOp.fj:AOp->Bool
 | .store _ _ _| .iR _ _ _ _| .call _ _| .append _ _ _ _| .copy _ _ _| .mkSlice _ _ _ _ _| .y3 _| .rangeMap _| .qn _| .jW _ _| .panic _| .recover=>true
 |_=>false
def AOp.jX:AOp->Bool
 | .alloc _| .box _| .buildSlice _ _ _ _| .mkMap=>true
 |_=>false
def AOp.looks:AOp->Bool
 | .load _ _| .lookup _ _ _ _ _| .len _ _| .entry _| .Ct _| .sV _ _ _ _ _=>true
 |_=>false
def n7{α:Type}:Option α->List α
 |none=>[]
 |some x=>[x]
def AOp.opnds:AOp->List aF
 | .bx x=>[x]| .pick c a b=>[c,a,b]| .alloc _=>[]| .box x=>[x]| .build _ aC=>aC.map (·.2.2)| .buildSlice _ _ _ aC=>aC.map (·.2)
 | .load _ a=>[a]| .store _ a x=>[a,x]| .nilCheck x=>[x]| .bin _ x y=>[x,y]| .wJ _ x y=>[x,y]| .iQ _ _ x y=>[x,y]| .not x=>[x]| .neg x=>[x]| .conv _ x=>[x]
 | .y3 x=>[x]| .Ct x=>[x]| .Cu _ x=>[x]| .e_ _ a c=>a++c| .mkMap=>[]| .mkSlice _ _ _ l c=>[l,c]
 | .sV _ _ x l h=>x::(n7 l++n7 h)| .ks _ x l h m=>x::(n7 l++(n7 h++n7 m))| .hz x l h=>x::(n7 l++n7 h)
 | .fieldAddr _ _ x=>[x]| .field _ _ x=>[x]| .pa _ _ x i=>[x,i]| .bl _ x i=>[x,i]| .jV x i=>[x,i]| .wK _ _ x i=>[x,i]
 | .lookup _ x k _ _=>[x,k]| .iR _ m k v=>[m,k,v]| .rangeMap x=>[x]| .qn x=>[x]| .entry x=>[x]| .Cv x _ _ _=>[x]| .extract x _=>[x]
 | .call c as=>(match c with| .fn _=>[]| .val o=>[o])++as| .jW c as=>(match c with| .fn _=>[]| .val o=>[o])++as
 | .panic x=>[x]| .append _ _ s x=>[s,x]| .len _ x=>[x]| .Cw _=>[]| .cap x=>[x]| .copy _ d s=>[d,s]| .y4 _ x y=>[x,y]| .recover=>[]| .bad=>[]
def aF.tmp:aF->Option Nat
 | .t i=>some i
 |_=>none
def aY.reads(o:aY):List Nat:=(match o.guard with|some (d,_)=>[d]|none=>[])++o.op.opnds.filterMap aF.tmp
abbrev qs:=aY×aX AV×AV
def h4(env:Env)(floor:Nat)(call:kU)(ops:List aY):Fr->List ad->List qs->ad->Option (Fr×List ad×List qs×ad):=
 List.rec (λab cp ws J=>some (ab,cp,ws,J)) (λo _ aD ab cp ws J=>
  cond (Cz o.guard ab.a_)
   (match qq o.op floor (wM env ab.a_) J with
    |some (.val v af)=>aD (ab.mC o.dst v) (J::cp) (match o.iS with|[]=>ws|_::_=>(o,ab.a_,v)::ws) af
    |some (.call cd args)=>match call cd args J with
     |some [(.ok v,af)]=>aD (ab.mC o.dst v) (J::cp) ws af
     |_=>none
    |_=>none)
   (aD (ab.mC o.dst dB) (J::cp) ws J)) ops
def steady(env:Env)(floor:Nat)(cp:List ad)(w:qs):Bool:=
 cr (λq=>match nth cp q with
  |some J=>match qq w.1.op floor (evalA env w.2.1) J with
   |some (.val v _)=>AV.eqb env.bn v w.2.2
   |_=>false
  |none=>false) w.1.iS
def swapOk(env:Env)(al:aX AV)(ops:List aY):Bool:=
 match ops.reverse with
 |y::x::_=>match y.iS with
  |[]=>true
  |_::_=>match y.op with
   | .store _ b _=>match x.op with
    | .store _ a _=>match evalA env al a,evalA env al b with
     |some (.p (some (i,_))),some (.p (some (j,_)))=>!Nat.beq i j
     |_,_=>false
    |_=>false
   |_=>true
 |_=>true
def leave(floor:Nat)(call:AV->List AV->AV->ad->Option (Bool×ad))(ds:List (Nat ⊕ (AV×List AV))):Option AV->ad->Option (Option AV×ad):=
 List.rec (λp J=>some (p,J)) (λd _ aD p J=>
  match d with
  | .inl b=>if Nat.blt b floor then none else match J.get b with
   |some .dN=>aD p (J.set b .dead)
   |_=>none
  | .inr (cd,args)=>match call cd args (p.getD .eO) J with
   |some (r,J)=>aD (cond r none p) J
   |none=>none) ds
def sW(env:Env)(floor:Nat)(rc:AV)(c:bF):Fr->ad->Option (fa×Fr×ad):=
 bF.rec (motive:=λ_=>Fr->ad->Option (fa×Fr×ad))
  (λab J=>some (.normal,ab,J))
  (λops ab J=>pd env floor (λ_ _ _=>none) (some rc) false ops ab J)
  (λ_ _ _=>none)
  (λ_ _ Hu Hv ab J=>match Hu ab J with
   |some (.normal,ab,J)=>Hv ab J
   |r=>r)
  (λc _ _ Hu Hv ab J=>match evalA env ab.a_ c with
   |some (.b t)=>cond t (Hu ab J) (Hv ab J)
   |_=>none)
  (λ_ _ _ _ _=>none) (λ_ _ _ _=>none) (λ_ _ _ _=>none) (λ_ _ _ _ _ _ _ _=>none) (λ_ _ _=>none)
  (λab J=>some (.ret,ab,J)) (λ_ _=>none) c
def callD(env:Env)(floor:Nat)(cd:AV)(args:List AV)(p:AV)(J:ad):Option (Bool×ad):=
 match cd with
 | .f (.func g) first cap=>match env.funcs g with
  |some fn=>match fn.body with
   |some body=>cond (Nat.beq (first++args++cap).length fn.jg&&Nat.ble (first++args++cap).length fn.ntmps)
    (match sW env floor p body (rH fn (first++args++cap)) J with
     |some (.normal,ab,J)=>(match ab.defers,resultsOf J ab.a_ fn.results with|[],some _=>some (ab.fi,J)|_,_=>none)
     |some (.ret,ab,J)=>(match ab.defers,resultsOf J ab.a_ fn.results with|[],some _=>some (ab.fi,J)|_,_=>none)
     |_=>none) none
   |none=>none
  |none=>none
 |_=>none
def CA(e:fa):Option AV:=match e with| .panic v=>some v|_=>none
def endF(env:Env)(floor:Nat)(fn:aI)(r:fa×Fr×ad):Option (List (dR×ad)):=
 match r with
 |(.exit _,_,_)=>none
 |(e,ab,J)=>
  match leave floor (callD env floor) ab.defers (CA e) J with
  |none=>none
  |some (some v,J)=>some [(.err v,J)]
  |some (none,J)=>match resultsOf J ab.a_ fn.results with
   |some v=>some [(.ok v,J)]
   |none=>none
def runF(env:Env)(aD:hZ)(floor g:Nat)(args:List AV)(J:ad):Option (List (dR×ad)):=
 match env.funcs g with
 |none=>none
 |some fn=>match fn.body with
  |none=>none
  |some body=>
   cond (Nat.beq args.length fn.jg&&Nat.ble args.length fn.ntmps)
    (gw (aD floor none body (rH fn args) J) (endF env floor fn))
    none
def wN(c:Nat)(l:List Nat):Nat->Int:=List.rec (motive:=λ_=>Nat->Int) (λ_=>-1) (λx _ aD k=>cond (Nat.beq x c) (Int.ofNat k) (aD (k+1))) l
def a1l(c:Nat)(l:List Nat):Nat:=List.rec 0 (λx _ aD=>cond (Nat.beq x c) (Nat.succ aD) aD) l
def extRow(n:Nat)(args:List AV):Option AV:=
 match n,args with
 |1,[.s l,.i .u8 (.ofNat c)]=>cond (Nat.blt c 256) (some (.i .i64 (wN c l 0))) none
 |2,[.s a,.s b]=>some (.i .i64 (cond (gT a b) (-1) (cond (eqL a b) 0 1)))
 |3,[.s l,.i .u8 (.ofNat c)]=>cond (Nat.blt c 256) (some (.i .i64 (Int.ofNat (a1l c l)))) none
 |_,_=>none
def uK(n base:Nat)(v1:AV)(y:dR×ad):Bool:=
 match y with
 |(.ok w,J)=>(match freeze J base n w with|some bR=>AV.eqb n bR v1|none=>false)
 |(.err _,_)=>false
def joinF(n base:Nat)(l:List (dR×ad)):Option AV:=
 match l with
 |[]=>none
 |x::t=>match x with
  |(.err _,_)=>none
  |(.ok v,J)=>match freeze J base n v with
   |none=>none
   |some v1=>cond (cr (uK n base v1) t) (some v1) none
def callF(env:Env)(aD:hZ)(floor g:Nat)(args:List AV)(J:ad):Option (List (dR×ad)):=
 match env.ext g with
 |0=>
  cond (env.pure g)
   (match(match mapO (bG J env.bn) args with|some aW=>env.spec g aW|none=>none) with
    |some r=>some [(.ok r,J)]
    |none=>match runF env aD J.next g args J with
     |some l=>match joinF env.bn J.next l with
      |some v=>some [(.ok v,J)]
      |none=>none
     |none=>none)
   (runF env aD floor g args J)
 |k=>match extRow k args with
  |some v=>some [(.ok v,J)]
  |none=>none
def layAll(aC:List Nat):List AV->aX AV->aX AV:=
 List.rec (λ_ al=>al) (λp _ aD args al=>match args with|[]=>al|a::args=>aD args (al.set p a)) aC
def endRound(J:ad)(l:Nat)(a1m:Option bF):Option (dR×ad):=
 match J.get l with
 |some (.loop _ _ al aC as b d)=>match a1m with
  |none=>some (.ok (.b true),J.set l (.loop .ready none al aC as b d))
  |some c=>some (.ok (.b false),J.set l (.loop .done (some c) al aC as b d))
 |_=>none
def roundEnd(l:Nat)(r:fa×Fr×ad):Option (List (dR×ad)):=
 match r with
 |(.normal,_,J)=>(endRound J l none).map λx=>[x]
 |(.ret,_,J)=>(endRound J l (some .ret)).map λx=>[x]
 |(.exit id,_,J)=>(endRound J l (some (.exit id))).map λx=>[x]
 |_=>none
def roundMid(aD:hZ)(floor l:Nat)(b:bF)(r:fa×Fr×ad):Option (List (dR×ad)):=
 match r with
 |(.normal,ab,J)=>match J.get l with
  |some (.loop .ready kt rI lu gV e5 hY)=>gw (aD floor (some l) b ab (J.set l (.loop .busy kt rI lu gV e5 hY))) (roundEnd l)
  |_=>none
 |_=>none
def Hw(aD:hZ)(floor l:Nat)(args:List AV)(J:ad):Option (List (dR×ad)):=
 if Nat.blt l floor then none else
 match J.get l with
 |some (.loop .ready _ al aC as b _)=>
  cond (Nat.beq aC.length args.length)
   (gw (aD floor (some l) as ⟨layAll aC args al,[],false⟩ J) (roundMid aD floor l b)) none
 |_=>none
def callV(env:Env)(aD:hZ)(floor:Nat)(cd:AV)(args:List AV)(J:ad):Option (List (dR×ad)):=
 match cd with
 | .f (.func g) first cap=>callF env aD floor g (first++args++cap) J
 | .f (.yield l) _ _=>Hw aD floor l args J
 |_=>none
def y7(aJ:Option Nat)(ab:Fr)(J:ad):Option (Nat×ad×List (Nat ⊕ (AV×List AV))):=
 match aJ with
 |some l=>match J.get l with
  |some (.loop _ _ _ _ _ _ d)=>some (d,J,ab.defers)
  |_=>none
 |none=>some (J.next,J.push .dN,.inl J.next::ab.defers)
def wO(aD:hZ)(floor:Nat)(aJ:Option Nat)(b:bF)(r:fa×Fr×ad):Option lr:=
 match r with
 |(.normal,ab,J)=>aD floor aJ b ab J
 |r=>some [r]
def Hx(id:Nat)(r:fa×Fr×ad):Option lr:=
 match r with
 |(.exit j,ab,J)=>cond (Nat.beq j id) (some [(.normal,ab,J)]) (some [(.exit j,ab,J)])
 |r=>some [r]
def rangeK(aD:hZ)(floor:Nat)(aJ:Option Nat)(ab:Fr)(ds:List (Nat ⊕ (AV×List AV)))(l:Nat)(r:dR×ad):Option lr:=
 match r with
 |(.ok _,gy)=>match gy.get l with
  |some (.loop st kt rI lu gV e5 hY)=>
   match st with
   | .busy=>none
   |_=>match kt with
    |none=>some [(.normal,⟨ab.a_,ds,ab.fi⟩,gy.set l (.loop .exhausted kt rI lu gV e5 hY))]
    |some c=>aD floor aJ c ⟨ab.a_,ds,ab.fi⟩ (gy.set l (.loop .exhausted kt rI lu gV e5 hY))
  |_=>none
 |_=>none
def step(env:Env)(aD:hZ):hZ:=λfloor aJ c ab J=>
 match c with
 | .skip=>some [(.normal,ab,J)]
 | .region ops=>runOps env floor (callV env aD floor) aJ.isNone ops ab J
 | .draw ops=>match h4 env floor (callV env aD floor) ops ab [] [] J with
  |some (a9,cp,ws,af)=>
   cond (ws.all (steady env floor (af::cp).reverse)&&swapOk env a9.a_ ops) (some [(.normal,a9,af)]) none
  |none=>none
 | .seq a b=>gw (aD floor aJ a ab J) (wO aD floor aJ b)
 | .cond c a b=>match evalA env ab.a_ c with
  |some (.b t)=>aD floor aJ (cond t a b) ab J
  |_=>none
 | .block id a=>gw (aD floor aJ a ab J) (Hx id)
 | .scope a=>aD floor aJ a ab J
 | .loop a=>gw (aD floor aJ a ab J) (wO aD floor aJ (.loop a))
 | .exit id=>some [(.exit id,ab,J)]
 | .ret=>some [(.ret,ab,J)]
 | .rangeFunc f aC as b=>
  if Nat.blt J.next floor then none else
  match evalA env ab.a_ f with
  |some (.f (.func g) first cap)=>
   match y7 aJ ab J with
   |none=>none
   |some (d,bP,ds)=>
    match env.ext g with
    |0=>gw (callF env aD floor g (first++AV.f (.yield bP.next) [] []::cap) (bP.push (.loop .ready none ab.a_ aC as b d))) (rangeK aD floor aJ ab ds bP.next)
    |_=>none
  |_=>none
 | .bad=>none
abbrev mF:=Env->hZ->Nat->Option Nat->Fr->ad->Option (List (fa×Fr×ad))
def a1n:mF:=λ_ _ _ _ ab J=>some [(.normal,ab,J)]
def a1o(ops:List aY):mF:=λenv aD floor aJ ab J=>runOps env floor (callV env aD floor) aJ.isNone ops ab J
def a1p(ops:List aY):mF:=λenv aD floor _ ab J=>match h4 env floor (callV env aD floor) ops ab [] [] J with
  |some (a9,cp,ws,af)=>
   cond (ws.all (steady env floor (af::cp).reverse)&&swapOk env a9.a_ ops) (some [(.normal,a9,af)]) none
  |none=>none
def a1q(a b:bF):mF:=λ_ aD floor aJ ab J=>gw (aD floor aJ a ab J) (wO aD floor aJ b)
def a1r(c:aF)(a b:bF):mF:=λenv aD floor aJ ab J=>match wM env ab.a_ c with
  |some (.b t)=>aD floor aJ (cond t a b) ab J
  |_=>none
def a1s(id:Nat)(a:bF):mF:=λ_ aD floor aJ ab J=>gw (aD floor aJ a ab J) (Hx id)
def a1t(a:bF):mF:=λ_ aD floor aJ ab J=>gw (aD floor aJ a ab J) (wO aD floor aJ (.loop a))
def a1u(a:bF):mF:=λ_ aD floor aJ ab J=>aD floor aJ a ab J
def a1v(id:Nat):mF:=λ_ _ _ _ ab J=>some [(.exit id,ab,J)]
def a1w:mF:=λ_ _ _ _ ab J=>some [(.ret,ab,J)]
def a1x(f:aF)(aC:List Nat)(as b:bF):mF:=λenv aD floor aJ ab J=>step env aD floor aJ (.rangeFunc f aC as b) ab J
def a1y:mF:=λ_ _ _ _ _ _=>none
def a1z(c:bF):mF:=
 bF.rec (motive:=λ_=>mF) a1n a1o a1p (λa b _ _=>a1q a b) (λc a b _ _=>a1r c a b) (λid a _=>a1s id a) (λa _=>a1t a) (λa _=>a1u a) (λf aC a b _ _=>a1x f aC a b) a1v a1w a1y c
def Oz(env:Env)(aD:hZ):hZ:=λfloor aJ c ab J=>a1z c env aD floor aJ ab J
def exec(env:Env)(n:Nat):hZ:=Nat.rec (motive:=λ_=>hZ) (λ_ _ _ _ _=>none) (λ_ aD=>Oz env aD) n
def OA(env:Env)(n g:Nat)(args:List AV):Option AV:=
 match runF env (exec env n) 0 g args ⟨.nil,0⟩ with
 |some l=>joinF env.bn 0 l
 |none=>none
def uL(s:ByteArray):List Nat:=s.data.toList.map (·.toNat)
def ofLeaf:Value->Option AV
 | .bool b=>some (.b b)
 | .int k n=>some (.i k n)
 | .string s=>some (.s (uL s))
 | .pointer none=>some (.p none)
 | .slice none 0 0=>some .ae
 | .map none=>some (.m none)
 | .nilFunc=>some .dA
 | .nilIface=>some .eO
 |_=>none
def mapOL{α β:Type}(f:α->Option β):List α->Option (List β)
 |[]=>some []
 |x::xs=>match f x,mapOL f xs with
  |some y,some a8=>some (y::a8)
  |_,_=>none
def ofValue:Value->Option AV
 | .agg l=>match mapOL ofLeaf l.toList with|some l=>some (.ag l)|none=>none
 | .iface t v=>match ofLeaf v with|some v=>some (.it t v)|none=>none
 |v=>ofLeaf v
section
variable (P:Program)
def shapeOf(t:TypeId):Option (Option Nat):=
 match P.underlying t,P.info? t with
 |some (.struct _),some i=>some (some i.size)
 |some (.array _ _),some i=>some (some i.size)
 |some (.struct _),none=>none
 |some (.array _ _),none=>none
 |some _,some i=>if i.size=1 then some none else none
 |_,_=>none
def zeroOf(t:TypeId):Option AV:=
 match P.info? t with
 |some i=>match i.zero with
  |some v=>ofValue v
  |none=>none
 |none=>none
def opdOf:Operand->Option aF
 | .tmp t=>some (.t t)
 | .const v=>match ofValue v with|some v=>some (.c v)|none=>none
 | .global g=>some (.g g)
 | .func f=>some (.c (.f (.func f) [] []))
def uM(l:List Operand):Option (List aF):=mapOL opdOf l
def opdO:Option Operand->Option (Option aF)
 |none=>some none
 |some x=>match opdOf x with|some x=>some (some x)|none=>none
def fieldOf(t:TypeId)(i:Nat):Option (Nat×Option Nat):=
 match P.underlying t with
 |some (.struct a2)=>match a2[i]? with
  |some f=>match shapeOf P f.type with
   |some U=>if shN U=0 then none else some (f.offset,U)
   |none=>none
  |none=>none
 |_=>none
def elemOf'(t:TypeId):Option (TypeId×Option Nat):=
 match P.underlying t with
 |some (.slice e)=>match shapeOf P e with|some U=>some (e,U)|none=>none
 |_=>none
def calleeOf:Callee->Option qm
 | .value (.func f)=>some (.fn f)
 | .value x=>match opdOf x with|some x=>some (.val x)|none=>none
 |_=>none
def isU8(t:TypeId):Bool:=match P.underlying t with|some (.int .u8)=>true|_=>false
def leafKind(t:TypeId):Option Nat:=
 match P.underlying t with
 |some (.int _)=>some 0
 |some .string=>some 1
 |some .bool=>some 2
 |_=>none
def keyOk(t:TypeId):Option (Nat ⊕ List Nat):=
 match leafKind P t with
 |some k=>some (.inl k)
 |none=>
  match P.underlying t with
  |some (.struct a2)=>if !P.stoodInHeld t&&a2.toList.zipIdx.all (λ(f,i)=>decide (f.name≠ "_")&&decide (f.offset=i)&&decide (shapeOf P f.type=some none)) then
    (mapOL (λf=>leafKind P f.type) a2.toList).map .inr else none
  |_=>none
def isInt(t:TypeId):Bool:=match P.underlying t with|some (.int _)=>true|_=>false
def isText(t:TypeId):Bool:=match P.underlying t with|some (.slice _)=>true|some .string=>true|_=>false
def flatS:Nat->List Field->Option (List Nat)
 |_,[]=>some []
 |i,f::a2=>
  if f.name≠ "_" ∧f.offset=i then
   match leafKind P f.type with
   |some k=>if shapeOf P f.type=some none then(flatS (i+1) a2).map λl=>k::l else none
   |none=>match keyOk P f.type with
    |some (.inr bo)=>if shapeOf P f.type=some (some bo.length) then(flatS (i+bo.length) a2).map λl=>bo++l else none
    |_=>none
  else none
def stK(t:TypeId):Option Nat:=
 match P.underlying t with
 |some (.struct a2)=>if P.stoodInHeld t=true then none else match flatS P 0 a2.toList with
  |some bo=>if Ox 40 (Cy bo)=bo/\P.eqGuardType P.depth t=false then some (10+Cy bo) else none
  |none=>none
 |_=>none
def cop(o:Oper):Option AOp:=
 match o.op with
 | .move x=>(opdOf x).map .bx
 | .assign x=>(opdOf x).map .bx
 | .pick c a b=>do return .pick (←opdOf c) (←opdOf a) (←opdOf b)
 | .alloc e=>(zeroOf P e).map .alloc
 | .box _ x=>(opdOf x).map .box
 | .build t aC=>do
  let .ag z <-zeroOf P t|none
  match P.underlying t with
  |some (.struct a2)=>
   if a2.any (λf=>(P.info? f.type).isNone) then none else
   let l <-mapOL (λ(p:Nat×Operand)=>match fieldOf P t p.1,opdOf p.2 with|some (off,U),some x=>some (off,shN U,x)|_,_=>none) aC.toList
   return .build z l
  |some (.array _ e)=>do
   let U <-shapeOf P e
   let l <-mapOL (λ(p:Nat×Operand)=>match opdOf p.2 with|some x=>some (p.1*shN U,shN U,x)|none=>none) aC.toList
   return .build z l
  |_=>none
 | .buildSlice t n aC=>do
  let(e,U) <-elemOf' P t
  let z <-zeroOf P e
  let l <-mapOL (λ(p:Nat×Operand)=>match opdOf p.2 with|some x=>some (p.1,x)|none=>none) aC.toList
  if n*shN U<=16777216/\z.cells.length=shN U then return .buildSlice U n z.cells l else none
 | .insert t m k v| .mapUpdate t m k v=>
  match P.underlying t with
  |some (.map hB _)=>do return .iR (←keyOk P hB) (←opdOf m) (←opdOf k) (←opdOf v)
  |_=>none
 | .load t a=>do return .load (←shapeOf P t) (←opdOf a)
 | .store t a v=>do return .store (←shapeOf P t) (←opdOf a) (←opdOf v)
 | .nilCheck x=>(opdOf x).map .nilCheck
 | .binOp op t x y _=>do
  let x <-opdOf x;let y <-opdOf y
  match P.underlying t,op with
  |some (.int _),_=>return .bin op x y
  |some .string,_=>return .bin op x y
  |some .bool,.eql=>return .wJ false x y
  |some .bool,.neq=>return .wJ true x y
  |some (.interface _),.eql=>return .iQ 0 false x y
  |some (.interface _),.neq=>return .iQ 0 true x y
  |some (.pointer _),.eql=>return .iQ 1 false x y
  |some (.pointer _),.neq=>return .iQ 1 true x y
  |some (.func _ _ _),.eql=>return .iQ 2 false x y
  |some (.func _ _ _),.neq=>return .iQ 2 true x y
  |some (.slice _),.eql=>return .iQ 3 false x y
  |some (.slice _),.neq=>return .iQ 3 true x y
  |some (.map _ _),.eql=>return .iQ 4 false x y
  |some (.map _ _),.neq=>return .iQ 4 true x y
  |some (.struct _),.eql=>(stK P t).map λk=>.iQ k false x y
  |some (.struct _),.neq=>(stK P t).map λk=>.iQ k true x y
  |_,_=>none
 | .unOp .not _ x=>(opdOf x).map .not
 | .unOp .neg _ x=>(opdOf x).map .neg
 | .unOp _ _ _=>none
 | .convert s d x=>
  match P.underlying s,P.underlying d with
  |some (.int _),some (.int k)=>(opdOf x).map (.conv k)
  |some .string,some (.slice e)=>if isU8 P e then(opdOf x).map .y3 else none
  |some (.slice e),some .string=>if isU8 P e then(opdOf x).map .Ct else none
  |_,_=>none
 | .makeInterface t x=>match P.underlying t with
  |some (.interface _)=>none
  |some _=>(opdOf x).map (.Cu t)
  |none=>none
 | .makeFunc fn a c=>match fn with
  | .func f=>do return .e_ (.func f) (←uM a.toList) (←uM c.toList)
  |_=>none
 | .makeMap t r=>match P.underlying t,r with
  |some (.map _ _),none=>some .mkMap
  |some (.map _ _),some (.const (.int _ _))=>some .mkMap
  |_,_=>none
 | .makeSlice t l c=>do
  let(e,U) <-elemOf' P t
  let z <-zeroOf P e
  let i <-P.info? e
  if z.cells.length=shN U then return .mkSlice U i.bytes z.cells (←opdOf l) (←opdOf c) else none
 | .slice t x l h m=>do
  let l <-opdO l;let h <-opdO h;let m <-opdO m
  match P.underlying t with
  |some (.array n e)=>match m with
   |none=>return .sV n (←shapeOf P e) (←opdOf x) l h
   |some _=>none
  |some (.slice e)=>match shapeOf P e with
   |some U=>if m.isSome/\h.isNone then none else return .ks U (←opdOf x) l h m
   |none=>none
  |some .string=>match m with
   |none=>return .hz (←opdOf x) l h
   |some _=>none
  |_=>none
 | .fieldAddr t x i=>do
  let(off,U) <-fieldOf P t i
  return .fieldAddr off U (←opdOf x)
 | .field t x i=>do
  let(off,U) <-fieldOf P t i
  return .field off U (←opdOf x)
 | .indexAddr t x i=>
  match P.underlying t with
  |some (.array n e)=>do return .pa n (←shapeOf P e) (←opdOf x) (←opdOf i)
  |some (.slice e)=>do return .bl (←shapeOf P e) (←opdOf x) (←opdOf i)
  |_=>none
 | .index t x i=>
  match P.underlying t with
  |some (.array n e)=>do return .wK n (←shapeOf P e) (←opdOf x) (←opdOf i)
  |some .string=>do return .jV (←opdOf x) (←opdOf i)
  |_=>none
 | .lookup t x k ok=>
  match P.underlying t with
  |some (.map hB e)=>do return .lookup (←keyOk P hB) (←opdOf x) (←opdOf k) (←zeroOf P e) ok
  |_=>none
 | .range t x=>match P.underlying t with
  |some (.map _ _)=>(opdOf x).map .rangeMap
  |_=>none
 | .next x false=>(opdOf x).map .qn
 | .entry x=>(opdOf x).map .entry
 | .typeAssert x _ t ok=>
  match P.underlying t with
  |some (.interface _)=>none
  |some _=>do return .Cv (←opdOf x) t (←zeroOf P t) ok
  |none=>none
 | .extract x i=>do return .extract (←opdOf x) i
 | .call {callee:=.builtin b,args,argTypes}=>
  match b,args.toList,argTypes.toList with
  | .append,[s,x],[t,u]=>do
   let(e,U) <-elemOf' P t
   let i <-P.info? e
   let z <-zeroOf P e
   if isText P u/\i.bytes≠0/\z.cells.length=shN U then return .append U i.bytes (←opdOf s) (←opdOf x)
   else if isInt P u/\i.bytes≠0/\z.cells.length=shN U/\0<shN U then return .mkSlice U i.bytes (.eO::z.cells) (←opdOf s) (←opdOf x) else none
  | .len,[x],[t]=>match P.underlying t with
   |some (.array n _)=>some (.Cw n)
   |some .string=>(opdOf x).map (.len 0)
   |some (.slice _)=>(opdOf x).map (.len 1)
   |some (.map _ _)=>(opdOf x).map (.len 2)
   |_=>none
  | .cap,[x],[t]=>match P.underlying t with
   |some (.slice _)=>(opdOf x).map .cap
   |_=>none
  | .clear,[x],[t]=>match elemOf' P t with
   |some (e,U)=>do
    let z <-zeroOf P e
    if z.cells.length=shN U then return .copy U (←opdOf x) (.c (.ag z.cells)) else none
   |none=>none
  | .min,[x,y],_=>do return .y4 false (←opdOf x) (←opdOf y)
  | .max,[x,y],_=>do return .y4 true (←opdOf x) (←opdOf y)
  | .recover,[],_=>some .recover
  | .panic,[x],_=>(opdOf x).map .panic
  |_,_,_=>none
 | .call c=>do return .call (←calleeOf c.callee) (←uM c.args.toList)
 | .defer {callee:=.builtin _,..}=>none
 | .defer c=>do return .jW (←calleeOf c.callee) (←uM c.args.toList)
 | .panic x=>(opdOf x).map .panic
 |_=>none
def copB(o:Oper):AOp:=match cop P o with|some x=>x|none=>.bad
def guardOf(ops:Array Oper)(o:Oper):Option (Option (Nat×Bool)):=
 match o.guard with
 |none=>some none
 |some (j,w)=>match(ops[j]?).bind (·.dst) with
  |some d=>some (some (d,w))
  |none=>none
def coper(ops:Array Oper)(o:Oper):Option aY:=
 match guardOf ops o with
 |some g=>some {dst:=o.dst,op:=copB P o,guard:=g,iS:=[]}
 |none=>none
def pe(o:Oper):List Nat:=(o.after.toList.filter (Region.binds .any)).map (·.on)
def y8:Nat->List (Nat×Bool×List Nat)->Nat->List Nat
 |0,_,_=>[]
 |fuel+1,rem,mask=>
  match(match rem.find? (λx=>!x.2.1&&x.2.2.all (λd=>mask.testBit d)) with|some x=>some x|none=>rem.find? (λx=>x.2.2.all (λd=>mask.testBit d))) with
  |some x=>x.1::y8 fuel (rem.filter λy=>!Nat.beq y.1 x.1) (mask ||| 1 <<< x.1)
  |none=>[]
def wP(A:List Nat)(es:List Nat):Nat:=es.foldr (λd acc=>(1 <<< d ||| A.getD d 0) ||| acc) 0
def CB{α:Type}(f:α->α->Bool):List α->Bool
 |[]=>true
 |x::xs=>xs.all (f x)&&CB f xs
def indep(x y:aY):Bool:=(match x.dst with|some d=>!y.reads.contains d|none=>true)&&(match y.dst with|some d=>!x.reads.contains d|none=>true)
def Hy:AOp->Bool
 | .store _ _ _=>true
 |_=>false
def OB(x:aY):Bool:=!x.op.fj&&(!x.op.jX&& !x.op.looks)
def OC(A:List Nat)(pl:List aY)(x y:aY×Nat):Bool:=
 Nat.beq (x.2+1) y.2&&(Nat.beq (y.2+1) pl.length&&(Hy x.1.op&&(Hy y.1.op&&(x.1.dst.isNone&&(y.1.dst.isNone&&(x.1.guard.isNone&&(y.1.guard.isNone&&(!y.1.iS.isEmpty&&
  pl.zipIdx.all λr=>!Nat.blt r.2 x.2||((A.getD y.2 0).testBit r.2||OB r.1)))))))))
def pairOk(A:List Nat)(pl:List aY)(x y:aY×Nat):Bool:=
 let y1:=(A.getD y.2 0).testBit x.2
 (match x.1.dst,y.1.dst with|some d,some e=>!Nat.beq d e|_,_=>true)&&(y1||(indep x.1 y.1&&(!x.1.op.fj||OC A pl x y)))
def CC(x:aY):Bool:=x.op.fj||x.op.jX
def OD(A:List Nat)(es:List Nat)(cs:List Nat)(n:Nat)(x:aY×Nat):Bool:=
 !x.1.op.looks||(n::es).all λq=>!Nat.blt x.2 q||(x.1.iS.contains q||(es.any (λe=>Nat.blt x.2 e&&(Nat.blt e q&&(A.getD e 0).testBit x.2))||cs.all λc=>!(Nat.blt x.2 c&&Nat.blt c q)))
def a1A(A:List Nat)(es:List Nat)(cs:List Nat)(n:Nat)(x:aY×Nat):List Nat:=
 if Hy x.1.op&&(Nat.beq (x.2+1) n&&(Nat.blt 0 x.2&&(es.contains (x.2-1)&& !(A.getD x.2 0).testBit (x.2-1)))) then[x.2-1]
 else if x.1.op.looks then(es++[n]).filter λq=>Nat.blt x.2 q&&(!es.any (λe=>Nat.blt x.2 e&&(Nat.blt e q&&(A.getD e 0).testBit x.2))&& !cs.all λc=>!(Nat.blt x.2 c&&Nat.blt c q)) else[]
def posOf(p:aY->Bool)(pl:List aY):List Nat:=(pl.zipIdx.filter λx=>p x.1).map (·.2)
def OE(n:Nat)(bb cN:List Nat):Bool:=
 Nat.beq bb.length n&&(Nat.beq cN.length n&&(bb.zipIdx.all (λx=>Nat.blt x.1 n&&Nat.beq (cN.getD x.1 0) x.2)&&cN.zipIdx.all (λx=>Nat.blt x.1 n&&Nat.beq (bb.getD x.1 0) x.2)))
def wQ(ds:List (List Nat))(cN:List Nat)(i:Nat):List Nat:=(ds.getD i []).map λj=>cN.getD j 0
def OF(ds:List (List Nat))(bb cN A:List Nat):Bool:=
 bb.zipIdx.all λx=>(wQ ds cN x.1).all (λd=>Nat.blt d x.2)&&Nat.beq (A.getD x.2 0) (wP A (wQ ds cN x.1))
def OG(n:Nat)(ds:List (List Nat))(pl:List aY)(bb cN A:List Nat):Bool:=
 OE n bb cN&&(ds.all (λl=>l.all λd=>Nat.blt d n)&&(OF ds bb cN A&&(CB (pairOk A pl) pl.zipIdx&&pl.zipIdx.all (OD A (posOf (·.op.fj) pl) (posOf CC pl) n))))
def OH(l:List aY)(bb:List Nat):Option (List aY):=mapOL (λi=>l[i]?) bb
def y9(A:List Nat)(n:Nat)(pl:List aY):List aY:=
 let es:=posOf (·.op.fj) pl
 let cs:=posOf CC pl
 pl.zipIdx.map λx=>{x.1 with iS:=a1A A es cs n x}
def cdraw(ops:Array Oper):Option (List aY):=
 match mapOL (coper P ops) ops.toList with
 |none=>none
 |some l=>
  let n:=ops.size
  let ds:=ops.toList.map pe
  let bb:=y8 n ((l.zip ds).zipIdx.map λx=>(x.2,x.1.1.op.fj,x.1.2)) 0
  let cN:=(List.range n).map λi=>bb.findIdx (Nat.beq i)
  let A:=bb.foldl (λacc i=>acc++[wP acc (wQ ds cN i)]) []
  match OH l bb with
  |none=>none
  |some pl=>if OG n ds (y9 A n pl) bb cN A then some (y9 A n pl) else none
def ccode:Code->Option bF
 | .skip=>some .skip
 | .region _ ops true=>match cdraw P ops with|some l=>some (.draw l)|none=>some .bad
 | .region _ ops false=>match mapOL (coper P ops) ops.toList with|some l=>some (.region l)|none=>some .bad
 | .seq a b=>match ccode a,ccode b with|some a,some b=>some (.seq a b)|_,_=>none
 | .cond c a b=>match opdOf c,ccode a,ccode b with|some c,some a,some b=>some (.cond c a b)|_,_,_=>none
 | .block id a=>match ccode a with|some a=>some (.block id a)|none=>none
 | .loop a=>match ccode a with|some a=>some (.loop a)|none=>none
 | .scope a=>match ccode a with|some a=>some (.scope a)|none=>none
 | .rangeFunc f aC a b=>match opdOf f,ccode a,ccode b with|some f,some a,some b=>some (.rangeFunc f aC.toList a b)|_,_,_=>none
 | .exit id=>some (.exit id)
 | .ret=>some .ret
 | .label _=>some .skip
 | .goto _=>some .bad
 | .refuse _=>some .bad
def resOf:ResultVar->Option (Nat×Option (Option Nat))
 | .tmp t=>some (t,none)
 | .cell a t=>match shapeOf P t with|some U=>some (a,some U)|none=>none
def cfunc(f:Func):Option aI:=
 match mapOL (resOf P) f.results.toList with
 |some rs=>match f.body with
  |none=>none
  |some c=>match ccode P c with
   |some c=>some {jg:=f.params.size+f.nfree,ntmps:=f.ntmps,results:=rs,body:=some c}
   |none=>none
 |none=>none
end
section
def strOf(l:List Nat):ByteArray:=⟨(l.map Nat.toUInt8).toArray⟩
def dV(w:World)(b:Nat):Option Nat:=
 match w.heap[b]? with
 |some (.cells c _ _)=>some c.size
 |_=>none
class Tok where
 y_:Nat->AV
 nh:Bool->Nat->AV
variable [Tok]
inductive za:AV->Value->Prop
 |i (k:IntKind) (n:Int):za (.i k n) (.int k n)
 |s (l:List Nat) (h:∀c∈l,c<256):za (.s l) (.string (strOf l))
theorem za.alt{a:AV}{u:Value}(h:za a u):(∃k n,u= .int k n)\/∃s,u= .string s:=by
 cases h with
 |i k n=>exact .inl ⟨_,_,rfl⟩
 |s l h=>exact .inr ⟨_,rfl⟩
inductive R(w:World):(Nat->Option Nat)->(Nat->Prop)->Nat->AV->Value->Prop
 |b {m:Nat->Option Nat} {O:Nat->Prop} {B:Nat} (x:Bool):R w m O B (.b x) (.bool x)
 |i {m:Nat->Option Nat} {O:Nat->Prop} {B:Nat} (k:IntKind) (n:Int):R w m O B (.i k n) (.int k n)
 |s {m:Nat->Option Nat} {O:Nat->Prop} {B:Nat} (l:List Nat) (h:∀c∈l,c<256):R w m O B (.s l) (.string (strOf l))
 |n8 {m:Nat->Option Nat} {O:Nat->Prop} {B:Nat}:R w m O B (.p none) (.pointer none)
 |p {m:Nat->Option Nat} {O:Nat->Prop} {B:Nat} {id aB off:Nat} (h:m id=some aB):R w m O B (.p (some (id,off))) (.pointer (some ⟨aB,off,none⟩))
 |df {m:Nat->Option Nat} {O:Nat->Prop} {B:Nat} {old:Bool} {v:AV} {aB off:Nat} (a8:Nat->Value) (cb:¬O aB) (hb:aB<w.heap.size) (bV:old=false->B<=aB)
   (aa:∀j,j<v.cells.length->w.cell? ⟨aB,off+j,none⟩=some (a8 j)) (ak:∀j (h:j<v.cells.length),R w (λ_=>none) O B (v.cells[j]) (a8 j)) (hf:∀x∈v.cells,conf none x=true):
   R w m O B (.df old v) (.pointer (some ⟨aB,off,none⟩))
 |ae {m:Nat->Option Nat} {O:Nat->Prop} {B:Nat}:R w m O B .ae (.slice none 0 0)
 |al {m:Nat->Option Nat} {O:Nat->Prop} {B:Nat} {id off len aB n fo:Nat} {U cap:Option Nat} (h:m id=some aB) (hl:len<=fo) (aa:∀c,cap=some c->fo=c) (hn:dV w aB=some n) (kV:off+fo*shN U<=n):
   R w m O B (.al id off len U cap) (.slice (some ⟨aB,off,none⟩) len fo)
 |kb {m:Nat->Option Nat} {O:Nat->Prop} {B:Nat} {old:Bool} {U:Option Nat}:R w m O B (.a7 old U []) (.slice none 0 0)
 |a7 {m:Nat->Option Nat} {O:Nat->Prop} {B:Nat} {old:Bool} {U:Option Nat} {xs:List AV} {aB off fo:Nat} {sp:Option Nat} (a8:Nat->Nat->Value) (cb:xs≠[]->¬O aB/\aB<w.heap.size/\(old=false->B<=aB))
   (ao:∀i (h:i<xs.length),conf U (xs[i])=true)
   (aa:∀i (h:i<xs.length),∀j,j<(xs[i]).cells.length->w.cell? ⟨aB,off+i*shN U+j,none⟩=some (a8 i j))
   (ak:∀i (h:i<xs.length),∀j (aA:j<(xs[i]).cells.length),R w (λ_=>none) O B ((xs[i]).cells[j]) (a8 i j)) (hl:xs.length<=fo) (hf:∀v∈xs,∀x∈v.cells,conf none x=true) (eP:xs≠[]->sp=none):
   R w m O B (.a7 old U xs) (.slice (some ⟨aB,off,sp⟩) xs.length fo)
 |pf {m:Nat->Option Nat} {O:Nat->Prop} {B:Nat}:R w m O B (.m none) (.map none)
 |mp {m:Nat->Option Nat} {O:Nat->Prop} {B:Nat} {id aB:Nat} (h:m id=some aB):R w m O B (.m (some id)) (.map (some aB))
 |ct {m:Nat->Option Nat} {O:Nat->Prop} {B:Nat} {g:Nat} {a2 cs:List AV} {fT eQ:Array Value} (hf:fT.size=a2.length) (bq:∀i (h:i<a2.length) (h':i<fT.size),R w m O B (a2[i]) (fT[i]))
   (aa:eQ.size=cs.length) (qt:∀i (h:i<cs.length) (h':i<eQ.size),R w m O B (cs[i]) (eQ[i])):R w m O B (.f (.func g) a2 cs) (.func (.func g) fT eQ)
 |rJ {m:Nat->Option Nat} {O:Nat->Prop} {B:Nat} {l aB:Nat} (h:m l=some aB):R w m O B (.f (.yield l) [] []) (.func (.yield aB) #[] #[])
 |dA {m:Nat->Option Nat} {O:Nat->Prop} {B:Nat}:R w m O B .dA .nilFunc
 |it {m:Nat->Option Nat} {O:Nat->Prop} {B:Nat} {t:TypeId} {v:AV} {u:Value} (h:R w m O B v u):R w m O B (.it t v) (.iface t u)
 |eO {m:Nat->Option Nat} {O:Nat->Prop} {B:Nat}:R w m O B .eO .nilIface
 |ag {m:Nat->Option Nat} {O:Nat->Prop} {B:Nat} {l:List AV} {bf:Array Value} (ao:bf.size=l.length) (ak:∀i (h:i<l.length) (h':i<bf.size),R w m O B (l[i]) (bf[i])) (hf:∀x∈l,conf none x=true):R w m O B (.ag l) (.agg bf)
 |a6 {m:Nat->Option Nat} {O:Nat->Prop} {B:Nat} {l:List AV} {bf:Array Value} (ao:bf.size=l.length) (ak:∀i (h:i<l.length) (h':i<bf.size),R w m O B (l[i]) (bf[i])):R w m O B (.a6 l) (.tuple bf)
 |gk {m:Nat->Option Nat} {O:Nat->Prop} {B:Nat} {k:IntKind} {d j n:Nat} (h:n%d=j) (hn:n<256):R w m O B (.gk k d j) (.int k (Int.ofNat n))
 |gK {m:Nat->Option Nat} {O:Nat->Prop} {B:Nat} {ex:List (List Nat)} {s:ByteArray} (h:∀e∈ex,s≠strOf e):R w m O B (.gK ex) (.string s)
 |g1 {m:Nat->Option Nat} {O:Nat->Prop} {B:Nat} {hi:Bool} (n:Int) (h:hi=decide (40<n)):R w m O B (.g1 hi) (.int .i64 n)
 |y {m:Nat->Option Nat} {O:Nat->Prop} {B i:Nat} {u:Value} (h:za (Tok.y_ i) u):R w m O B (.y i) u
 |fs {m:Nat->Option Nat} {O:Nat->Prop} {B i:Nat} {old:Bool} {u:Value} {a:Option Addr} {l c:Nat} (hu:u= .slice a l c) (h:R w (λ_=>none) O B (Tok.nh old i) u):R w m O B (.fs old i) u
class TokOk:Prop where
 snap:∀ {w:World} {O:Nat->Prop} {B dW i:Nat} {old:Bool} {u:Value},R w (λ_=>none) O B (Tok.nh old i) u->R w (λ_=>none) (λ_=>False) dW (Tok.nh true i) u
 fresh:∀ {w:World} {O:Nat->Prop} {B i:Nat} {u:Value},R w (λ_=>none) O B (Tok.nh false i) u->R w (λ_=>none) (λb=>b<B) B (Tok.nh false i) u
def bz(w:World)(m:Nat->Option Nat)(O:Nat->Prop)(B:Nat)(l:List AV)(bf:List Value):Prop:=
 bf.length=l.length/\∀i (h:i<l.length) (h':i<bf.length),R w m O B (l[i]) (bf[i])
def hC(w:World)(m:Nat->Option Nat)(O:Nat->Prop)(B:Nat)(al:aX AV)(bf:List Value):Prop:=
 (∀i v,al.get i=some v->∃u,bf[i]? =some u/\R w m O B v u)/\∀i,al.get i=none->bf[i]? =none
theorem OI{w av:World}{a:Addr}(h:av.heap[a.block]? =w.heap[a.block]?):av.cell? a=w.cell? a:=by
 unfold World.cell?;rw[h]
theorem R.mono{w av:World}{m aP:Nat->Option Nat}{O iT:Nat->Prop}{B:Nat}(hm:∀id aB,m id=some aB->aP id=some aB)(cj:w.heap.size<=av.heap.size)
  (gl:∀b n,dV w b=some n->dV av b=some n) (az:∀aB,aB<w.heap.size->¬O aB->av.heap[aB]? =w.heap[aB]? ∧¬iT aB) {v:AV} {u:Value} (h:R w m O B v u):R av aP iT B v u:=by
 induction h generalizing aP with
 |b x=>exact .b x
 |i k n=>exact .i k n
 |s l h=>exact .s l h
 |n8=>exact .n8
 |p h=>exact .p (hm _ _ h)
 |df a8 cb hb bV aa ak hf aD=>exact .df a8 (az _ hb cb).2 (by omega) bV (λj aA=>by rw[OI (w:=w) (az _ hb cb).1];exact aa j aA) (λj aA=>aD j aA (aP:=λ_=>none) (λ_ _ h=>by cases h) az) hf
 |ae=>exact .ae
 |al h hl aa hn kV=>exact .al (hm _ _ h) hl aa (gl _ _ hn) kV
 |kb=>exact .kb
 | @a7 _ _ _ old U xs aB off fo sp a8 cb ao aa ak hl hf eP aD=>
  by_cases hx:xs=[]
  ·subst hx;exact .a7 a8 (λh=>absurd I h) ao (λi h=>by simp at h) (λi h=>by simp at h) hl hf eP
  ·obtain⟨h1,h2,h3⟩:=cb hx;exact .a7 a8 (λ_=>⟨(az _ h2 h1).2,by omega,h3⟩) ao (λi h j aA=>by rw[OI (w:=w) (az _ h2 h1).1];exact aa i h j aA) (λi h j aA=>aD i h j aA (aP:=λ_=>none) (λ_ _ h=>by cases h) az) hl hf eP
 |pf=>exact .pf
 |mp h=>exact .mp (hm _ _ h)
 |ct hf bq aa qt Hz pg=>exact .ct hf (λi h h'=>Hz i h h' hm az) aa (λi h h'=>pg i h h' hm az)
 |rJ h=>exact .rJ (hm _ _ h)
 |dA=>exact .dA
 |it _ aD=>exact .it (aD hm az)
 |eO=>exact .eO
 |ag ao _ hf aD=>exact .ag ao (λi h h'=>aD i h h' hm az) hf
 |a6 ao _ aD=>exact .a6 ao (λi h h'=>aD i h h' hm az)
 |gk h hn=>exact .gk h hn
 |gK h=>exact .gK h
 |g1 n h=>exact .g1 n h
 |y h=>exact .y h
 |fs hu _ aD=>exact .fs hu (aD (λ_ _ h=>by cases h) az)
theorem R.up{w:World}{m:Nat->Option Nat}{O:Nat->Prop}{B:Nat}{v:AV}{u:Value}(h:R w (λ_=>none) O B v u):R w m O B v u:=
 h.mono (λ_ _ h=>by cases h) (Nat.le_refl _) (λ_ _ h=>h) (λ_ _ h=>⟨rfl,h⟩)
def AO.isDead:AO->Bool
 | .dead=>true
 |_=>false
def live(J:ad)(id:Nat):Prop:=∃o,J.get id=some o/\o.isDead=false
def bj(J:ad)(m:Nat->Option Nat)(aB:Nat):Prop:=∃id,m id=some aB/\live J id
def uN(f:Nat)(J:ad)(m:Nat->Option Nat)(aB:Nat):Prop:=∃id,f<=id/\m id=some aB/\live J id
def CD(P:Program):Option bF->Option Code->Prop
 |none,none=>True
 |some c,some d=>ccode P d=some c/\(c= .ret\/∃id,c= .exit id)
 |_,_=>False
inductive kW(P:Program)(w:World)(m:Nat->Option Nat)(O:Nat->Prop)(B:Nat):AO->Obj->Prop
 |cells {c:List AV} {arr:Array Value} {el:TypeId} {bn:Nat×Nat} (hl:c.length<=arr.size) (ak:∀i (h:i<c.length) (h':i<arr.size),R w m O B (c[i]) (arr[i]))
   (bg:∀i,i<arr.size->(decide (bn.1<=i)&&decide (i<bn.2))=false) (hf:∀x∈c,conf none x=true):kW P w m O B (.cells c) (.cells arr el bn)
 |map {es:List (AV×AV×Nat)} {dv:Array MapEntry} {clock:Nat} (hl:dv.size=es.length)
   (ak:∀i (h:i<es.length) (h':i<dv.size),R w m O B (es[i]).1 (dv[i]).key/\R w m O B (es[i]).2.1 (dv[i]).val/\(dv[i]).born=(es[i]).2.2):kW P w m O B (.map es clock) (.map dv clock)
 |mapIter {id:Option Nat} {b:Option Nat} {since fZ:Nat} {seen:List Nat} (hb:match id,b with|none,none=>True|some i,some j=>m i=some j|_,_=>False):
   kW P w m O B (.mapIter id since seen fZ) (.mapIter b since seen.toArray fZ)
 |loop {st:LoopState} {kt:Option bF} {lW:Option Code} {a_:aX AV} {tmps:Array Value} {aC:List Nat} {as b:bF} {gV e5:Code} {d D:Nat} {fn:FuncId}
   (kX:CD P kt lW) (ao:hC w m O B a_ tmps.toList) (ha:ccode P gV=some as) (hb:ccode P e5=some b) (hd:m d=some D):
   kW P w m O B (.loop st kt a_ aC as b d) (.loop {state:=st,pending:=lW,fn,tmps,params:=aC.toArray,assign:=gV,body:=e5,defers:=D})
 |dN:kW P w m O B .dN (.deferred (some []))
theorem bz.mono{w av:World}{m aP:Nat->Option Nat}{O iT:Nat->Prop}{B:Nat}(hm:∀id aB,m id=some aB->aP id=some aB)(cj:w.heap.size<=av.heap.size)
  (gl:∀b n,dV w b=some n->dV av b=some n) (az:∀aB,aB<w.heap.size->¬O aB->av.heap[aB]? =w.heap[aB]? ∧¬iT aB) {l:List AV} {bf:List Value} (h:bz w m O B l bf):bz av aP iT B l bf:=
 ⟨h.1,λi hi cY=>(h.2 i hi cY).mono hm cj gl az⟩
theorem hC.mono{w av:World}{m aP:Nat->Option Nat}{O iT:Nat->Prop}{B:Nat}(hm:∀id aB,m id=some aB->aP id=some aB)(cj:w.heap.size<=av.heap.size)
  (gl:∀b n,dV w b=some n->dV av b=some n) (az:∀aB,aB<w.heap.size->¬O aB->av.heap[aB]? =w.heap[aB]? ∧¬iT aB) {l:aX AV} {bf:List Value} (h:hC w m O B l bf):hC av aP iT B l bf:=
 ⟨λi v hi=>let⟨u,h1,h2⟩:=h.1 i v hi;⟨u,h1,h2.mono hm cj gl az⟩,h.2⟩
theorem kW.mono{P:Program}{w av:World}{m aP:Nat->Option Nat}{O iT:Nat->Prop}{B:Nat}(hm:∀id aB,m id=some aB->aP id=some aB)(cj:w.heap.size<=av.heap.size)
  (gl:∀b n,dV w b=some n->dV av b=some n) (az:∀aB,aB<w.heap.size->¬O aB->av.heap[aB]? =w.heap[aB]? ∧¬iT aB) {o:AO} {bH:Obj} (h:kW P w m O B o bH):kW P av aP iT B o bH:=by
 cases h with
 |cells hl ak bg hf=>exact .cells hl (λi h h'=>(ak i h h').mono hm cj gl az) bg hf
 |map hl ak=>exact .map hl (λi h h'=>⟨(ak i h h').1.mono hm cj gl az,(ak i h h').2.1.mono hm cj gl az,(ak i h h').2.2⟩)
 | @mapIter id b _ _ _ hb=>exact .mapIter (by cases id<;>cases b<;>first|exact hb|exact hm _ _ hb)
 |loop kX ao ha hb hd=>exact .loop kX (ao.mono hm cj gl az) ha hb (hm _ _ hd)
 |dN=>exact .dN
structure Rel(P:Program)(J:ad)(w:World)(m:Nat->Option Nat)(B:Nat):Prop where
 len:True
 fk:∀id aB,m id=some aB->aB<w.heap.size/\id<J.next
 obj:∀id aB o,m id=some aB->J.get id=some o->o.isDead=false->∃bH,w.heap[aB]? =some bH/\kW P w m (bj J m) B o bH
 inj:∀id ga aB,m id=some aB->m ga=some aB->live J id->live J ga->id=ga
 base:∀id aB,m id=some aB->B<=aB
 kY:B<=w.heap.size
structure Ext(f:Nat)(J:ad)(w:World)(m:Nat->Option Nat)(af:ad)(av:World)(aP:Nat->Option Nat):Prop where
 mono:∀id aB,m id=some aB->aP id=some aB
 new:∀id aB,aP id=some aB->m id=some aB\/(J.next<=id/\(w.heap.size<=aB\/uN f J m aB))
 next:J.next<=af.next
 size:w.heap.size<=av.heap.size
 bI:∀b n,dV w b=some n->dV av b=some n
 aO:∀aB,aB<w.heap.size->¬uN f J m aB->av.heap[aB]? =w.heap[aB]?
 low:∀id,id<f->id<J.next->af.get id=J.get id
 dead:∀id,id<J.next->live af id->live J id
 os:av.os=w.os
 tape:av.tape=w.tape
 out:av.output=w.output
 un:∀id,id<J.next->m id=none->af.get id=J.get id
theorem uN.own{f:Nat}{J:ad}{m:Nat->Option Nat}{aB:Nat}(h:uN f J m aB):bj J m aB:=let⟨id,_,h1,h2⟩:=h;⟨id,h1,h2⟩
theorem Ext.refl(f:Nat)(J:ad)(w:World)(m:Nat->Option Nat):Ext f J w m J w m:=
 ⟨λ_ _ h=>h,λ_ _ h=>.inl h,Nat.le_refl _,Nat.le_refl _,λ_ _ h=>h,λ_ _ _=>rfl,λ_ _ _=>rfl,λ_ _ h=>h,rfl,rfl,rfl,λ_ _ _=>rfl⟩
theorem Ext.qu{P:Program}{f:Nat}{J af:ad}{w av:World}{m aP:Nat->Option Nat}{B:Nat}(h:Ext f J w m af av aP)(ak:Rel P J w m B)(aB:Nat)(hb:aB<w.heap.size)(cb:¬bj J m aB):
  av.heap[aB]? =w.heap[aB]? ∧¬bj af aP aB:=by
 refine⟨h.aO aB hb (λho=>cb ho.own),?_⟩;rintro⟨id,h1,h2⟩;rcases h.new id aB h1 with h3|⟨_,h3|h3⟩
 ·exact cb ⟨id,h3,h.dead id (ak.fk _ _ h3).2 h2⟩
 ·omega
 ·exact cb h3.own
theorem R.ext{P:Program}{f:Nat}{J af:ad}{w av:World}{m aP:Nat->Option Nat}{B:Nat}(h:Ext f J w m af av aP)(ak:Rel P J w m B){v:AV}{u:Value}(au:R w m (bj J m) B v u):R av aP (bj af aP) B v u:=
 au.mono h.mono h.size h.bI (h.qu ak)
theorem hC.ext{P:Program}{f:Nat}{J af:ad}{w av:World}{m aP:Nat->Option Nat}{B:Nat}(h:Ext f J w m af av aP)(ak:Rel P J w m B){v:aX AV}{u:List Value}(au:hC w m (bj J m) B v u):hC av aP (bj af aP) B v u:=
 au.mono h.mono h.size h.bI (h.qu ak)
theorem bz.ext{P:Program}{f:Nat}{J af:ad}{w av:World}{m aP:Nat->Option Nat}{B:Nat}(h:Ext f J w m af av aP)(ak:Rel P J w m B){v:List AV}{u:List Value}(au:bz w m (bj J m) B v u):bz av aP (bj af aP) B v u:=
 au.mono h.mono h.size h.bI (h.qu ak)
theorem Ext.trans{P:Program}{f:Nat}{J af OJ:ad}{w av wR:World}{m aP OK:Nat->Option Nat}{B:Nat}(h:Ext f J w m af av aP)(ak:Rel P J w m B)(h':Ext f af av aP OJ wR OK):Ext f J w m OJ wR OK where
 mono id aB hb:=h'.mono _ _ (h.mono _ _ hb)
 new id aB hb:=by
  have key:∀b,uN f af aP b->w.heap.size<=b\/uN f J m b:=by
   rintro b ⟨i,hf,h1,h2⟩;rcases h.new i b h1 with h3|⟨_,h3⟩
   ·exact .inr ⟨i,hf,h3,h.dead i (ak.fk _ _ h3).2 h2⟩
   ·exact h3
  rcases h'.new id aB hb with h1|⟨h1,h2⟩
  ·rcases h.new id aB h1 with h3|⟨h3,aQ⟩
   ·exact .inl h3
   ·exact .inr ⟨h3,aQ⟩
  ·refine .inr ⟨by have:=h.next;omega,?_⟩;rcases h2 with h2|h2
   ·exact .inl (by have:=h.size;omega)
   ·exact key _ h2
 next:=Nat.le_trans h.next h'.next
 size:=Nat.le_trans h.size h'.size
 bI b n hb:=h'.bI _ _ (h.bI _ _ hb)
 aO aB hb cb:=by
  have ao:=h.size;rw[h'.aO aB (by omega) ?_,h.aO aB hb cb];rintro⟨i,hf,h1,h2⟩;rcases h.new i aB h1 with h3|⟨_,h3|h3⟩
  ·exact cb ⟨i,hf,h3,h.dead i (ak.fk _ _ h3).2 h2⟩
  ·omega
  ·exact cb h3
 low id hf hn:=by rw[h'.low id hf (by have:=h.next;omega),h.low id hf hn]
 dead id hn hl:=h.dead id hn (h'.dead id (by have:=h.next;omega) hl)
 os:=h'.os.trans h.os
 tape:=h'.tape.trans h.tape
 out:=h'.out.trans h.out
 un id hn hm:=by
  have lX:aP id=none:=by
   cases e:aP id with
   |none=>rfl
   |some b=>
    rcases h.new id b e with h3|⟨h3,_⟩
    ·rw[hm] at h3;cases h3
    ·omega
  rw[h'.un id (by have:=h.next;omega) lX,h.un id hn hm]
theorem zb{α:Type}(l:List α):∀n,nth l n=l[n]? :=by
 induction l with
 |nil=>intro n;rfl
 |cons x xs aD=>
  intro n;cases n with
  |zero=>rfl
  |succ n=>exact(aD n).trans (by simp)
theorem HC{α β:Type}(f:α->Option β):mapO f []=some []:=rfl
theorem mapO_cons{α β:Type}(f:α->Option β)(x:α)(xs:List α):mapO f (x::xs)=match f x with|none=>none|some y=>match mapO f xs with|none=>none|some a8=>some (y::a8):=rfl
theorem mG{α β:Type}{f:α->Option β}:∀ {l:List α} {a8:List β},mapO f l=some a8->a8.length=l.length/\∀i (h:i<l.length) (h':i<a8.length),f (l[i])=some (a8[i])
 |[],a8,h=>by simp[HC] at h;subst h;simp
 |x::xs,a8,h=>by
  rw[mapO_cons] at h;cases hx:f x with
  |none=>simp[hx] at h
  |some y=>
   simp only[hx] at h;cases dg:mapO f xs with
   |none=>simp[dg] at h
   |some eB=>
    simp only[dg,Option.some.injEq] at h;subst h;obtain⟨h1,h2⟩:=mG dg;refine⟨by simp[h1],λi hi cY=>?_⟩;cases i with
    |zero=>simpa using hx
    |succ i=>simpa using h2 i (by simpa using hi) (by simpa using cY)
theorem ni{i:Nat}(h:i≠0):(Nat.beq (Nat.mod i 2) 1=true/\i=2*Nat.div (Nat.sub i 1) 2+1)\/(Nat.beq (Nat.mod i 2) 1=false/\i=2*Nat.div (Nat.sub i 1) 2+2):=by
 have aN:Nat.mod i 2=i%2:=rfl;have a4:Nat.div (Nat.sub i 1) 2=(i-1)/2:=rfl;rw[aN,a4];rcases Nat.mod_two_eq_zero_or_one i with h2|h2
 ·right;rw[h2];exact⟨rfl,by omega⟩
 ·left;rw[h2];exact⟨rfl,by omega⟩
section
variable {α:Type}
theorem aX.get_nil(i:Nat):(aX.nil:aX α).get i=none:=rfl
theorem ph{α:Type}(t:Bool)(a b:α):(Bool.rec (motive:=λ_=>α) b a t:α)=cond t a b:=by cases t<;>rfl
theorem aX.jj(v:Option α)(l r:aX α)(i:Nat):(aX.node v l r).get i=cond (Nat.beq i 0) v (cond (Nat.beq (Nat.mod i 2) 1) (l.get (Nat.div (Nat.sub i 1) 2)) (r.get (Nat.div (Nat.sub i 1) 2))):=(ph _ _ _).trans (congrArg (cond _ _) (ph _ _ _))
theorem aX.HD(v:Option α)(l r:aX α)(i:Nat)(x:α):(aX.node v l r).set i x=cond (Nat.beq i 0) (.node (match v with|some _=>some x|none=>none) l r)
  (cond (Nat.beq (Nat.mod i 2) 1) (.node v (l.set (Nat.div (Nat.sub i 1) 2) x) r) (.node v l (r.set (Nat.div (Nat.sub i 1) 2) x))):=by cases v<;>exact(ph _ _ _).trans (congrArg (cond _ _) (ph _ _ _))
theorem aX.a1B(i:Nat)(x:α):(aX.nil:aX α).ins i x=aX.wL (i+1) i x:=rfl
theorem aX.a1C(v:Option α)(l r:aX α)(i:Nat)(x:α):(aX.node v l r).ins i x=cond (Nat.beq i 0) (.node (some x) l r)
  (cond (Nat.beq (Nat.mod i 2) 1) (.node v (l.ins (Nat.div (Nat.sub i 1) 2) x) r) (.node v l (r.ins (Nat.div (Nat.sub i 1) 2) x))):=(ph _ _ _).trans (congrArg (cond _ _) (ph _ _ _))
theorem aX.a1D(f i:Nat)(x:α):aX.wL (f+1) i x=cond (Nat.beq i 0) (.node (some x) .nil .nil) (cond (Nat.beq (Nat.mod i 2) 1) (.node none (aX.wL f (Nat.div (Nat.sub i 1) 2) x) .nil) (.node none .nil (aX.wL f (Nat.div (Nat.sub i 1) 2) x))):=(ph _ _ _).trans (congrArg (cond _ _) (ph _ _ _))
theorem aX.OL(f n:Nat)(x:α):aX.full (f+1) x n=cond (Nat.beq n 0) .nil (.node (some x) (aX.full f x (Nat.div n 2)) (aX.full f x (Nat.div (Nat.sub n 1) 2))):=rfl
theorem iA{i:Nat}(h:i≠0):Nat.beq i 0=false:=by
 cases h1:Nat.beq i 0 with
 |false=>rfl
 |true=>exact absurd (Nat.eq_of_beq_eq_true h1) h
theorem aX.h5:∀(t:aX α) (d i:Nat) (x:α),(t.set d x).get i=if i=d then(t.get d).map (λ_=>x) else t.get i
 | .nil,d,i,x=>by
  show(aX.nil:aX α).get i=_;rw[aX.get_nil,aX.get_nil];simp
 | .node v l r,d,i,x=>by
  rw[aX.HD];by_cases hd:d=0
  ·subst hd;rw[Nat.beq_refl,cond_true,aX.jj,aX.jj,aX.jj];by_cases hi:i=0
   ·subst hi;rw[Nat.beq_refl,cond_true,cond_true,if_pos I];cases v<;>rfl
   ·rw[iA hi,cond_false,cond_false,if_neg hi]
  ·rw[iA hd,cond_false];rcases ni hd with⟨h1,h2⟩|⟨h1,h2⟩
   ·rw[h1,cond_true,aX.jj,aX.jj,aX.jj,iA hd,cond_false,h1,cond_true];by_cases hi:i=0
    ·subst hi;rw[Nat.beq_refl,cond_true,cond_true,if_neg (Ne.symm hd)]
    ·rw[iA hi,cond_false,cond_false];rcases ni hi with⟨h3,aQ⟩|⟨h3,aQ⟩
     ·rw[h3,cond_true,cond_true,aX.h5 l];by_cases he:i=d
      ·subst he;rw[if_pos I,if_pos I]
      ·rw[if_neg he,if_neg (by omega)]
     ·rw[h3,cond_false,cond_false,if_neg (by omega)]
   ·rw[h1,cond_false,aX.jj,aX.jj,aX.jj,iA hd,cond_false,h1,cond_false];by_cases hi:i=0
    ·subst hi;rw[Nat.beq_refl,cond_true,cond_true,if_neg (Ne.symm hd)]
    ·rw[iA hi,cond_false,cond_false];rcases ni hi with⟨h3,aQ⟩|⟨h3,aQ⟩
     ·rw[h3,cond_true,cond_true,if_neg (by omega)]
     ·rw[h3,cond_false,cond_false,aX.h5 r];by_cases he:i=d
      ·subst he;rw[if_pos I,if_pos I]
      ·rw[if_neg he,if_neg (by omega)]
theorem aX.HF:∀(f d i:Nat) (x:α),d<f->(aX.wL f d x).get i=if i=d then some x else none
 |0,d,i,x,h=>by omega
 |f+1,d,i,x,h=>by
  rw[aX.a1D];by_cases hd:d=0
  ·subst hd;rw[Nat.beq_refl,cond_true,aX.jj];by_cases hi:i=0
   ·subst hi;rw[Nat.beq_refl,cond_true,if_pos I]
   ·rw[iA hi,cond_false,if_neg hi,aX.get_nil];cases Nat.beq (Nat.mod i 2) 1<;>rfl
  ·rw[iA hd,cond_false];rcases ni hd with⟨h1,h2⟩|⟨h1,h2⟩
   ·rw[h1,cond_true,aX.jj];by_cases hi:i=0
    ·subst hi;rw[Nat.beq_refl,cond_true,if_neg (Ne.symm hd)]
    ·rw[iA hi,cond_false];rcases ni hi with⟨h3,aQ⟩|⟨h3,aQ⟩
     ·rw[h3,cond_true,aX.HF f _ _ x (by omega)];by_cases he:i=d
      ·subst he;rw[if_pos I,if_pos I]
      ·rw[if_neg he,if_neg (by omega)]
     ·rw[h3,cond_false,if_neg (by omega),aX.get_nil]
   ·rw[h1,cond_false,aX.jj];by_cases hi:i=0
    ·subst hi;rw[Nat.beq_refl,cond_true,if_neg (Ne.symm hd)]
    ·rw[iA hi,cond_false];rcases ni hi with⟨h3,aQ⟩|⟨h3,aQ⟩
     ·rw[h3,cond_true,if_neg (by omega),aX.get_nil]
     ·rw[h3,cond_false,aX.HF f _ _ x (by omega)];by_cases he:i=d
      ·subst he;rw[if_pos I,if_pos I]
      ·rw[if_neg he,if_neg (by omega)]
theorem aX.zc:∀(t:aX α) (d i:Nat) (x:α),(t.ins d x).get i=if i=d then some x else t.get i
 | .nil,d,i,x=>by rw[aX.a1B,aX.HF _ _ _ _ (Nat.lt_succ_self d),aX.get_nil]
 | .node v l r,d,i,x=>by
  rw[aX.a1C];by_cases hd:d=0
  ·subst hd;rw[Nat.beq_refl,cond_true,aX.jj,aX.jj];by_cases hi:i=0
   ·subst hi;rw[Nat.beq_refl,cond_true,if_pos I]
   ·rw[iA hi,cond_false,cond_false,if_neg hi]
  ·rw[iA hd,cond_false];rcases ni hd with⟨h1,h2⟩|⟨h1,h2⟩
   ·rw[h1,cond_true,aX.jj,aX.jj];by_cases hi:i=0
    ·subst hi;rw[Nat.beq_refl,cond_true,cond_true,if_neg (Ne.symm hd)]
    ·rw[iA hi,cond_false,cond_false];rcases ni hi with⟨h3,aQ⟩|⟨h3,aQ⟩
     ·rw[h3,cond_true,cond_true,aX.zc l];by_cases he:i=d
      ·subst he;rw[if_pos I,if_pos I]
      ·rw[if_neg he,if_neg (by omega)]
     ·rw[h3,cond_false,cond_false,if_neg (by omega)]
   ·rw[h1,cond_false,aX.jj,aX.jj];by_cases hi:i=0
    ·subst hi;rw[Nat.beq_refl,cond_true,cond_true,if_neg (Ne.symm hd)]
    ·rw[iA hi,cond_false,cond_false];rcases ni hi with⟨h3,aQ⟩|⟨h3,aQ⟩
     ·rw[h3,cond_true,cond_true,if_neg (by omega)]
     ·rw[h3,cond_false,cond_false,aX.zc r];by_cases he:i=d
      ·subst he;rw[if_pos I,if_pos I]
      ·rw[if_neg he,if_neg (by omega)]
theorem aX.CE:∀(f n i:Nat) (x:α),i<n->n<=f->(aX.full f x n).get i=some x
 |0,n,i,x,h,hf=>by omega
 |f+1,n,i,x,h,hf=>by
  rw[aX.OL];have hn:n≠0:=by omega
  rw[iA hn,cond_false,aX.jj];have aN:Nat.div n 2=n/2:=rfl;have a4:Nat.div (Nat.sub n 1) 2=(n-1)/2:=rfl;by_cases hi:i=0
  ·subst hi;rw[Nat.beq_refl,cond_true]
  ·rw[iA hi,cond_false];rcases ni hi with⟨h3,aQ⟩|⟨h3,aQ⟩
   ·rw[h3,cond_true];exact aX.CE f _ _ x (by rw[aN];omega) (by rw[aN];omega)
   ·rw[h3,cond_false];exact aX.CE f _ _ x (by rw[a4];omega) (by rw[a4];omega)
theorem aX.CF:∀(f n i:Nat) (x y:α),(aX.full f x n).get i=some y->y=x/\i<n
 |0,n,i,x,y,h=>by
  have h:(aX.nil:aX α).get i=some y:=h;rw[aX.get_nil] at h;cases h
 |f+1,n,i,x,y,h=>by
  rw[aX.OL] at h;by_cases hn:n=0
  ·subst hn;rw[Nat.beq_refl,cond_true,aX.get_nil] at h;cases h
  ·rw[iA hn,cond_false,aX.jj] at h;have aN:Nat.div n 2=n/2:=rfl;have a4:Nat.div (Nat.sub n 1) 2=(n-1)/2:=rfl;by_cases hi:i=0
   ·subst hi;rw[Nat.beq_refl,cond_true] at h;cases h;exact⟨rfl,by omega⟩
   ·rw[iA hi,cond_false] at h;rcases ni hi with⟨h3,aQ⟩|⟨h3,aQ⟩
    ·rw[h3,cond_true] at h;have:=aX.CF f _ _ x y h;exact⟨this.1,by rw[aN] at this;omega⟩
    ·rw[h3,cond_false] at h;have:=aX.CF f _ _ x y h;exact⟨this.1,by rw[a4] at this;omega⟩
end
section
variable {α:Type}
theorem OM(f i:Nat):uI (f+1) i=cond (Nat.beq i 0) .h (cond (Nat.beq (Nat.mod i 2) 1) (.l (uI f (Nat.div (Nat.sub i 1) 2))) (.r (uI f (Nat.div (Nat.sub i 1) 2)))):=
 (ph _ _ _).trans (congrArg (cond _ _) (ph _ _ _))
theorem aX.CG:∀(f i:Nat) (t:aX α),i<f->aX.Cx (uI f i) t=t.get i
 |0,i,t,h=>absurd h (Nat.not_lt_zero _)
 |f+1,i,t,h=>by
  rw[OM];by_cases hi:i=0
  ·subst hi;cases t<;>rfl
  ·rw[iA hi,cond_false];have hlt:Nat.div (Nat.sub i 1) 2<f:=by show(i-1)/2<f;omega
   rcases ni hi with⟨h1,_⟩|⟨h1,_⟩
   ·rw[h1,cond_true];cases t with
    |nil=>rfl
    |node v l r=>rw[aX.jj,iA hi,cond_false,h1,cond_true];exact aX.CG f _ l hlt
   ·rw[h1,cond_false];cases t with
    |nil=>rfl
    |node v l r=>rw[aX.jj,iA hi,cond_false,h1,cond_false];exact aX.CG f _ r hlt
theorem aX.HH(x:α):∀(f i:Nat) (t:aX α),i<f->aX.Ov x (uI f i) t=t.set i x
 |0,i,t,h=>absurd h (Nat.not_lt_zero _)
 |f+1,i,t,h=>by
  rw[OM];by_cases hi:i=0
  ·subst hi;cases t<;>rfl
  ·rw[iA hi,cond_false];have hlt:Nat.div (Nat.sub i 1) 2<f:=by show(i-1)/2<f;omega
   rcases ni hi with⟨h1,_⟩|⟨h1,_⟩
   ·rw[h1,cond_true];cases t with
    |nil=>rfl
    |node v l r=>rw[aX.HD,iA hi,cond_false,h1,cond_true];exact congrArg (λl=>aX.node v l r) (aX.HH x f _ l hlt)
   ·rw[h1,cond_false];cases t with
    |nil=>rfl
    |node v l r=>rw[aX.HD,iA hi,cond_false,h1,cond_false];exact congrArg (λr=>aX.node v l r) (aX.HH x f _ r hlt)
end
theorem HI:wM=evalA:=by
 funext env al x
 cases x with
 |t i=>exact aX.CG _ _ _ (Nat.lt_succ_self i)
 |c v=>rfl
 |g g=>rfl
theorem ON:Fr.mC=Fr.put:=by
 funext ab d v
 cases d with
 |none=>rfl
 |some d=>exact congrArg (λs=>Fr.mk s ab.defers ab.fi) (aX.HH v _ _ _ (Nat.lt_succ_self d))
theorem OO:Cz=wantedA:=by
 funext g al
 cases g with
 |none=>rfl
 |some p=>
  obtain⟨d,w⟩:=p;show(match aX.Cx (uI (d+1) d) al with|some (.b x)=>x==w|_=>false)=_;rw[aX.CG _ _ _ (Nat.lt_succ_self d)];rfl
theorem a1E(env:Env)(aD:hZ):Oz env aD=step env aD:=by
 funext floor aJ c ab J
 cases c with
 |cond c a b=>
  show(match wM env ab.a_ c with|some (.b t)=>aD floor aJ (cond t a b) ab J|_=>none)=_;rw[HI];rfl
 |_=>rfl
theorem ad.get_eq(J:ad)(id:Nat):J.get id=if id<J.next then J.uJ.get id else none:=by
 unfold ad.get;by_cases h:id<J.next
 ·have hb:Nat.blt id J.next=true:=by simpa [Nat.blt_eq] using h
  rw[hb,cond_true,if_pos h]
 ·have hb:Nat.blt id J.next=false:=by
   cases hb:Nat.blt id J.next
   ·rfl
   ·exact absurd (by simpa [Nat.blt_eq] using hb) h
  rw[hb,cond_false,if_neg h]
theorem ad.bt{J:ad}{id:Nat}{o:AO}(h:J.get id=some o):id<J.next:=by
 rw[ad.get_eq] at h;split at h
 ·assumption
 ·cases h
theorem ad.fD{J:ad}(_hl:True)(o:AO){id:Nat}(h:id<J.next):(J.push o).get id=J.get id:=by
 rw[ad.get_eq,ad.get_eq,if_pos h,if_pos (show id<(J.push o).next from Nat.lt_succ_of_lt h)];show(J.uJ.ins J.next o).get id=_;rw[aX.zc,if_neg (by omega)]
theorem ad.iB{J:ad}(o:AO):(J.push o).get J.next=some o:=by
 rw[ad.get_eq,if_pos (show J.next<(J.push o).next from Nat.lt_succ_self _)];show(J.uJ.ins J.next o).get J.next=_;rw[aX.zc,if_pos I]
theorem ad.OP{J:ad}(hl:True)(o:AO)(id:Nat):(J.push o).get id=if id=J.next then some o else J.get id:=by
 by_cases h:id=J.next
 ·subst h;simp[ad.iB]
 ·rw[if_neg h];by_cases h':id<J.next
  ·exact ad.fD hl o h'
  ·rw[ad.get_eq,ad.get_eq,if_neg (show ¬id<(J.push o).next from λh2=>h (by have:id<J.next+1:=h2;omega)),if_neg h']
theorem ad.h5{J:ad}(_hl:True){id:Nat}(o:AO)(h:id<J.next)(ga:Nat):(J.set id o).get ga=if ga=id then some o else J.get ga:=by
 rw[ad.get_eq,ad.get_eq];show(if ga<J.next then(J.uJ.ins id o).get ga else none)=_;by_cases h':ga<J.next
 ·rw[if_pos h',if_pos h',aX.zc]
 ·rw[if_neg h',if_neg h',if_neg (by omega)]
end
end Go.Lyc
end
noncomputable section
namespace Go.Lyc
set_option maxHeartbeats 0
variable [Tok]
open Go.RowKit
def wr:Array Value->Nat->List Value->Array Value
 |arr,_,[]=>arr
 |arr,o,v::r=>wr (arr.setIfInBounds o v) (o+1) r
theorem uO:∀(bf:List Value) (arr:Array Value) (o:Nat),(wr arr o bf).size=arr.size
 |[],_,_=>rfl
 |v::r,arr,o=>by rw[wr,uO r];simp
theorem CH:∀(bf:List Value) (arr:Array Value) (o i:Nat),o+bf.length<=arr.size->(wr arr o bf)[i]? =if o<=i/\i<o+bf.length then bf[i-o]? else arr[i]?
 |[],arr,o,i,_=>by rw[wr,if_neg (λh=>by simp at h;omega)]
 |v::r,arr,o,i,h=>by
  have h':o+1+r.length<=(arr.setIfInBounds o v).size:=by simp at h ⊢;omega
  rw[wr,CH r _ (o+1) i h'];simp only[List.length_cons] at h ⊢;by_cases h1:o+1<=i/\i<o+1+r.length
  ·rw[if_pos h1,if_pos (by omega),show i-o=(i-(o+1))+1 by omega,List.getElem?_cons_succ]
  ·rw[if_neg h1];by_cases h2:i=o
   ·subst h2;rw[if_pos (by omega)];simp[Array.getElem?_setIfInBounds];omega
   ·rw[if_neg (by omega),Array.getElem?_setIfInBounds_ne (λe=>h2 e.symm)]
theorem heap_setCell_same{w:World}{b o:Nat}{v:Value}{arr:Array Value}{el:TypeId}{bn:Nat×Nat}(h:w.heap[b]? =some (.cells arr el bn)):
  (w.setCell ⟨b,o,none⟩ v).heap[b]? =some (.cells (arr.setIfInBounds o v) el bn):=by
 simp[World.setCell,Array.getElem?_modify,h]
theorem HJ:∀(bf:List Value) (w:World) (b o:Nat) (arr:Array Value) (el:TypeId) (bn:Nat×Nat),w.heap[b]? =some (.cells arr el bn)→
  (w.setCells b o bf).heap[b]? =some (.cells (wr arr o bf) el bn)
 |[],w,b,o,arr,el,bn,h=>h
 |v::r,w,b,o,arr,el,bn,h=>by
  rw[World.setCells,wr];exact HJ r _ b (o+1) _ el bn (heap_setCell_same h)
theorem heap_setCells_other:∀(bf:List Value) (w:World) (b o k:Nat),k≠b->(w.setCells b o bf).heap[k]? =w.heap[k]?
 |[],w,b,o,k,h=>rfl
 |v::r,w,b,o,k,h=>by
  rw[World.setCells,heap_setCells_other r _ b (o+1) k h];exact Below.heap_setCell w ⟨b,o,none⟩ v k h
theorem HL:∀(bf:List Value) (w:World) (b o:Nat),(w.setCells b o bf).heap.size=w.heap.size/\(w.setCells b o bf).os=w.os/\(w.setCells b o bf).tape=w.tape/\(w.setCells b o bf).output=w.output
 |[],w,b,o=>⟨rfl,rfl,rfl,rfl⟩
 |v::r,w,b,o=>by
  rw[World.setCells];obtain⟨h1,h2,h3,aQ⟩:=HL r (w.setCell ⟨b,o,none⟩ v) b (o+1);exact⟨by rw[h1];simp,by rw[h2];rfl,by rw[h3];rfl,by rw[aQ];rfl⟩
theorem wS{w:World}{b:Nat}{o:Obj}(h:w.heap[b]? =some o):b<w.heap.size:=(Array.getElem?_eq_some_iff.1 h).1
def bindM(m:Nat->Option Nat)(i b:Nat):Nat->Option Nat:=λid=>if id=i then some b else m id
theorem gz(m:Nat->Option Nat)(i b:Nat):bindM m i b i=some b:=by simp[bindM]
theorem hD(m:Nat->Option Nat)(i b:Nat){id:Nat}(h:id≠i):bindM m i b id=m id:=by simp[bindM,h]
section
variable {P:Program}{J:ad}{w:World}{m:Nat->Option Nat}{B:Nat}
theorem Rel.a1F(ak:Rel P J w m B):m J.next=none:=by
 cases h:m J.next with
 |none=>rfl
 |some b=>have:=(ak.fk _ _ h).2;omega
theorem Rel.OQ(ak:Rel P J w m B){aB:Nat}(h:bj J m aB):aB<w.heap.size:=let⟨_,h1,_⟩:=h;(ak.fk _ _ h1).1
theorem HM(ak:Rel P J w m B){o:AO}(ho:o.isDead=false)(id:Nat):live (J.push o) id↔id=J.next\/live J id:=by
 unfold live;rw[ad.OP ak.len];by_cases h:id=J.next
 ·subst h;simp[ho]
 ·simp[h]
theorem OR{id:Nat}(h:live J id):id<J.next:=let⟨_,h1,_⟩:=h;ad.bt h1
theorem Rel.alloc(ak:Rel P J w m B)(f:Nat)(av:World)(o:AO)(bH:Obj)(ho:o.isDead=false)(hh:av.heap=w.heap.push bH)(ku:av.os=w.os)(nj:av.tape=w.tape)(kc:av.output=w.output)
  (kd:kW P w m (bj J m) B o bH):Rel P (J.push o) av (bindM m J.next w.heap.size) B/\Ext f J w m (J.push o) av (bindM m J.next w.heap.size):=by
 have cj:av.heap.size=w.heap.size+1:=by rw[hh];simp
 have hold:∀b,b<w.heap.size->av.heap[b]? =w.heap[b]? :=λb hb=>by
  rw[hh,Array.getElem?_push];rw[if_neg (by omega)]
 have kv:av.heap[w.heap.size]? =some bH:=by rw[hh];simp
 have dh:Ext f J w m (J.push o) av (bindM m J.next w.heap.size):=by
  refine⟨?_,?_,Nat.le_succ _,by omega,?_,λb hb _=>hold b hb,?_,?_,ku,nj,kc,λid hn _=>ad.fD ak.len o hn⟩
  ·intro id aB h;rw[hD m _ _ (by have:=(ak.fk _ _ h).2;omega)];exact h
  ·intro id aB h;by_cases hi:id=J.next
   ·subst hi;rw[gz] at h;cases h;exact .inr ⟨Nat.le_refl _,.inl (Nat.le_refl _)⟩
   ·rw[hD m _ _ hi] at h;exact .inl h
  ·intro b n hb;have:b<w.heap.size:=by
    rcases Nat.lt_or_ge b w.heap.size with h|h
    ·exact h
    ·simp[dV,Array.getElem?_eq_none h] at hb
   unfold dV at hb ⊢;rw[hold b this];exact hb
  ·intro id _ hn;exact ad.fD ak.len o hn
  ·intro id hn hl;rcases(HM ak ho id).1 hl with h|h
   ·omega
   ·exact h
 refine⟨⟨trivial,?_,?_,?_,?_,by have:=ak.kY;omega⟩,dh⟩
 ·intro id aB h;by_cases hi:id=J.next
  ·subst hi;rw[gz] at h;cases h;exact⟨by omega,Nat.lt_succ_self _⟩
  ·rw[hD m _ _ hi] at h;have:=ak.fk _ _ h;exact⟨by omega,Nat.lt_succ_of_lt this.2⟩
 ·intro id aB dy h hg hd;by_cases hi:id=J.next
  ·subst hi;rw[gz] at h;cases h;rw[ad.iB] at hg;cases hg;exact⟨bH,kv,kd.mono dh.mono dh.size dh.bI (dh.qu ak)⟩
  ·rw[hD m _ _ hi] at h;have hlt:=ak.fk _ _ h;rw[ad.fD ak.len o hlt.2] at hg;obtain⟨hc,h1,h2⟩:=ak.obj id aB dy h hg hd;exact⟨hc,by rw[hold _ hlt.1];exact h1,h2.mono dh.mono dh.size dh.bI (dh.qu ak)⟩
 ·intro id ga aB h h' hl rK;by_cases hi:id=J.next
  ·by_cases cY:ga=J.next
   ·rw[hi,cY]
   ·subst hi;rw[gz] at h;cases h;rw[hD m _ _ cY] at h';have:=(ak.fk _ _ h').1;omega
  ·rw[hD m _ _ hi] at h;by_cases cY:ga=J.next
   ·subst cY;rw[gz] at h';cases h';have:=(ak.fk _ _ h).1;omega
   ·rw[hD m _ _ cY] at h';exact ak.inj id ga aB h h' (((HM ak ho id).1 hl).resolve_left hi) (((HM ak ho ga).1 rK).resolve_left cY)
 ·intro id aB h;by_cases hi:id=J.next
  ·subst hi;rw[gz] at h;cases h;exact ak.kY
  ·rw[hD m _ _ hi] at h;exact ak.base _ _ h
theorem a1G(ak:Rel P J w m B){id:Nat}(h:id<J.next)(o:AO)(ga:Nat):live (J.set id o) ga↔if ga=id then o.isDead=false else live J ga:=by
 unfold live;rw[ad.h5 ak.len o h];by_cases he:ga=id
 ·simp[he]
 ·simp[he]
theorem Rel.cR(ak:Rel P J w m B){f id aB:Nat}(hf:f<=id)(hm:m id=some aB)(hl:live J id)(av:World)(o:AO)(cj:av.heap.size=w.heap.size)
  (uP:∀b,b≠aB->av.heap[b]? =w.heap[b]?) (gl:∀n,dV w aB=some n->dV av aB=some n) (ku:av.os=w.os) (nj:av.tape=w.tape) (kc:av.output=w.output)
  (kd:o.isDead=false->∃bH,av.heap[aB]? =some bH/\kW P w m (bj J m) B o bH):Rel P (J.set id o) av m B/\Ext f J w m (J.set id o) av m:=by
 have hlt:=ak.fk _ _ hm;have nk:∀ga,live (J.set id o) ga->live J ga:=λga h=>by
  rw[a1G ak hlt.2] at h;by_cases he:ga=id
  ·subst he;exact hl
  ·rwa[if_neg he] at h
 have dh:Ext f J w m (J.set id o) av m:=by
  refine⟨λ_ _ h=>h,λ_ _ h=>.inl h,Nat.le_refl _,by omega,?_,?_,?_,λga _ h=>nk ga h,ku,nj,kc,λga _ rL=>by rw[ad.h5 ak.len o hlt.2,if_neg (λe=>by subst e;rw[hm] at rL;cases rL)]⟩
  ·intro b n hb;by_cases he:b=aB
   ·subst he;exact gl n hb
   ·unfold dV at hb ⊢;rw[uP b he];exact hb
  ·intro b hb cb;refine uP b λhe=>cb ?_;subst he;exact⟨id,hf,hm,hl⟩
  ·intro ga n9 hn;rw[ad.h5 ak.len o hlt.2,if_neg (by omega)]
 refine⟨⟨trivial,λga b h=>by have:=ak.fk _ _ h;exact⟨by omega,this.2⟩,?_,λi kx b h h' a cn=>ak.inj i kx b h h' (nk _ a) (nk _ cn),ak.base,by have:=ak.kY;omega⟩,dh⟩;intro ga b dy h hg hd;by_cases he:ga=id
 ·subst he;rw[hm] at h;cases h;rw[ad.h5 ak.len o hlt.2,if_pos I] at hg;cases hg;obtain⟨hc,h1,h2⟩:=kd hd;exact⟨hc,h1,h2.mono dh.mono dh.size dh.bI (dh.qu ak)⟩
 ·rw[ad.h5 ak.len o hlt.2,if_neg he] at hg;obtain⟨hc,h1,h2⟩:=ak.obj ga b dy h hg hd;have a5:b≠aB:=λe=>he (ak.inj ga id aB (e▸h) hm ⟨dy,hg,hd⟩ hl);exact⟨hc,by rw[uP b a5];exact h1,h2.mono dh.mono dh.size dh.bI (dh.qu ak)⟩
theorem Rel.move(ak:Rel P J w m B){f id aB:Nat}(hf:f<=id)(hm:m id=some aB)(hl:live J id)(av:World)(o:AO)(ho:o.isDead=false)(cj:av.heap.size=w.heap.size)
  (uP:∀b,b≠aB->av.heap[b]? =w.heap[b]?) (gl:∀n,dV w aB=some n->dV av aB=some n) (ku:av.os=w.os) (nj:av.tape=w.tape) (kc:av.output=w.output)
  (kd:∃bH,av.heap[aB]? =some bH/\kW P w m (bj J m) B o bH):
  Rel P ((J.set id .dead).push o) av (bindM m J.next aB) B/\Ext f J w m ((J.set id .dead).push o) av (bindM m J.next aB):=by
 have hlt:=ak.fk _ _ hm;have hlen:True:=trivial;have gA:∀i,((J.set id .dead).push o).get i=if i=J.next then some o else if i=id then some .dead else J.get i:=λi=>by
  rw[ad.OP hlen o i];show(if i=J.next then some o else _)=_;by_cases h:i=J.next
  ·rw[if_pos h,if_pos h]
  ·rw[if_neg h,if_neg h,ad.h5 ak.len .dead hlt.2]
 have nk:∀i,live ((J.set id .dead).push o) i↔i=J.next\/(i≠id/\live J i):=λi=>by
  unfold live;rw[gA i];by_cases h:i=J.next
  ·simp[h,ho]
  ·by_cases h':i=id
   ·subst h';simp[h,AO.isDead]
   ·simp[h,h']
 have dh:Ext f J w m ((J.set id .dead).push o) av (bindM m J.next aB):=by
  refine⟨?_,?_,Nat.le_succ _,by omega,?_,?_,?_,?_,ku,nj,kc,λi hn rL=>by rw[gA,if_neg (by omega),if_neg (λe=>by subst e;rw[hm] at rL;cases rL)]⟩
  ·intro i b h;rw[hD m _ _ (by have:=(ak.fk _ _ h).2;omega)];exact h
  ·intro i b h;by_cases hi:i=J.next
   ·subst hi;rw[gz] at h;cases h;exact .inr ⟨Nat.le_refl _,.inr ⟨id,hf,hm,hl⟩⟩
   ·rw[hD m _ _ hi] at h;exact .inl h
  ·intro b n hb;by_cases he:b=aB
   ·subst he;exact gl n hb
   ·unfold dV at hb ⊢;rw[uP b he];exact hb
  ·intro b hb cb;refine uP b λhe=>cb ?_;subst he;exact⟨id,hf,hm,hl⟩
  ·intro i n9 hn;rw[gA,if_neg (by omega),if_neg (by omega)]
  ·intro i hn h;rcases(nk i).1 h with h|h
   ·omega
   ·exact h.2
 refine⟨⟨trivial,?_,?_,?_,?_,by have:=ak.kY;omega⟩,dh⟩
 ·intro i b h;by_cases hi:i=J.next
  ·subst hi;rw[gz] at h;cases h;exact⟨by omega,Nat.lt_succ_self _⟩
  ·rw[hD m _ _ hi] at h;have:=ak.fk _ _ h;exact⟨by omega,Nat.lt_succ_of_lt this.2⟩
 ·intro i b dy h hg hd;rw[gA] at hg;by_cases hi:i=J.next
  ·subst hi;rw[gz] at h;cases h;rw[if_pos I] at hg;cases hg;obtain⟨hc,h1,h2⟩:=kd;exact⟨hc,h1,h2.mono dh.mono dh.size dh.bI (dh.qu ak)⟩
  ·rw[hD m _ _ hi] at h;rw[if_neg hi] at hg;by_cases he:i=id
   ·rw[if_pos he] at hg;cases hg;cases hd
   ·rw[if_neg he] at hg;obtain⟨hc,h1,h2⟩:=ak.obj i b dy h hg hd;have a5:b≠aB:=λe=>he (ak.inj i id aB (e▸h) hm ⟨dy,hg,hd⟩ hl);exact⟨hc,by rw[uP b a5];exact h1,h2.mono dh.mono dh.size dh.bI (dh.qu ak)⟩
 ·intro i kx b h h' a cn;by_cases hi:i=J.next
  ·by_cases cY:kx=J.next
   ·rw[hi,cY]
   ·subst hi;rw[gz] at h;cases h;rw[hD m _ _ cY] at h';have h3:=((nk kx).1 cn).resolve_left cY;exact absurd (ak.inj kx id aB h' hm h3.2 hl) h3.1
  ·rw[hD m _ _ hi] at h;have h2:=((nk i).1 a).resolve_left hi;by_cases cY:kx=J.next
   ·subst cY;rw[gz] at h';cases h';exact absurd (ak.inj i id aB h hm h2.2 hl) h2.1
   ·rw[hD m _ _ cY] at h';exact ak.inj i kx b h h' h2.2 (((nk kx).1 cn).resolve_left cY).2
 ·intro i b h;by_cases hi:i=J.next
  ·subst hi;rw[gz] at h;cases h;exact ak.base _ _ hm
  ·rw[hD m _ _ hi] at h;exact ak.base _ _ h
end
theorem OS(s:ByteArray):strOf (uL s)=s:=by
 unfold strOf uL;have:(s.data.toList.map (·.toNat)).map Nat.toUInt8=s.data.toList:=by
  rw[List.map_map];conv=>rhs;rw[<-List.map_id s.data.toList]
  apply List.map_congr_left;intro c _;simp
 rw[this]
theorem OT(s:ByteArray):∀c∈uL s,c<256:=by
 intro c aa;simp only[uL,List.mem_map] at aa;obtain⟨x,_,rfl⟩:=aa;exact x.toNat_lt
theorem uQ{α β:Type}{f:α->Option β}:∀ {l:List α} {a8:List β},mapOL f l=some a8->a8.length=l.length/\∀i (h:i<l.length) (h':i<a8.length),f (l[i])=some (a8[i])
 |[],a8,h=>by simp[mapOL] at h;subst h;simp
 |x::xs,a8,h=>by
  rw[mapOL] at h;split at h
  ·rename_i y eB hx dg;cases h;obtain⟨h1,h2⟩:=uQ dg;refine⟨by simp[h1],λi hi cY=>?_⟩;cases i with
   |zero=>simpa using hx
   |succ i=>simpa using h2 i (by simpa using hi) (by simpa using cY)
  ·cases h
section
variable {P:Program}{w:World}{m:Nat->Option Nat}{O:Nat->Prop}{B:Nat}
theorem HO{v:Value}{x:AV}(h:ofLeaf v=some x):conf none x=true:=by
 unfold Lyc.ofLeaf at h;split at h<;>cases h<;>rfl
theorem R.ofLeaf{v:Value}{x:AV}(h:ofLeaf v=some x):R w m O B x v:=by
 unfold Lyc.ofLeaf at h;split at h<;>cases h
 ·exact .b _
 ·exact .i _ _
 ·rename_i s;have:=R.s (w:=w) (m:=m) (O:=O) (B:=B) (uL s) (OT s);rwa[OS] at this
 ·exact .n8
 ·exact .ae
 ·exact .pf
 ·exact .dA
 ·exact .eO
theorem R.ofValue{v:Value}{x:AV}(h:ofValue v=some x):R w m O B x v:=by
 unfold Lyc.ofValue at h;split at h
 ·split at h
  ·rename_i l eo hx;cases h;obtain⟨h1,h2⟩:=uQ hx;refine .ag (by rw[<-Array.length_toList];exact h1.symm) (λi hi cY=>?_) (λx hx=>?_)
   ·have:=h2 i (by rw[Array.length_toList];exact cY) hi;exact R.ofLeaf (by simpa using this)
   ·obtain⟨i,hi,rfl⟩:=List.getElem_of_mem hx;exact HO (h2 i (by omega) hi)
  ·cases h
 ·split at h
  ·rename_i hx;cases h;exact .it (R.ofLeaf hx)
  ·cases h
 ·exact R.ofLeaf h
theorem bz.get{l:List AV}{bf:List Value}(h:bz w m O B l bf){i:Nat}{v:AV}(au:l[i]? =some v):∃u,bf[i]? =some u/\R w m O B v u:=by
 obtain⟨hi,rfl⟩:=List.getElem?_eq_some_iff.1 au;have cY:i<bf.length:=by rw[h.1];exact hi
 exact⟨bf[i],List.getElem?_eq_getElem cY,h.2 i hi cY⟩
theorem bz.nil:bz w m O B [] []:=⟨rfl,λi h=>by simp at h⟩
theorem bz.cons{x:AV}{u:Value}{l:List AV}{bf:List Value}(h:R w m O B x u)(hl:bz w m O B l bf):bz w m O B (x::l) (u::bf):=
 ⟨by simp[hl.1],λi h1 h2=>by
  cases i with
  |zero=>exact h
  |succ i=>exact hl.2 i (by simpa using h1) (by simpa using h2)⟩
theorem bz.append{l cf:List AV}{bf qv:List Value}(h:bz w m O B l bf)(h':bz w m O B cf qv):bz w m O B (l++cf) (bf++qv):=by
 refine⟨by simp[h.1,h'.1],λi h1 h2=>?_⟩;by_cases hi:i<l.length
 ·rw[List.getElem_append_left hi,List.getElem_append_left (by rw[h.1];exact hi)];exact h.2 i hi _
 ·rw[List.getElem_append_right (by omega),List.getElem_append_right (by rw[h.1];omega)];have:i-bf.length=i-l.length:=by rw[h.1]
  simp only[this];exact h'.2 _ _ (by have:=h'.1;have:=h.1;simp at h1 h2;omega)
theorem bz.drop{l:List AV}{bf:List Value}(h:bz w m O B l bf)(k:Nat):bz w m O B (l.drop k) (bf.drop k):=
 ⟨by simp[h.1],λi h1 h2=>by rw[List.getElem_drop,List.getElem_drop];exact h.2 _ (by simp at h1;omega) (by simp at h2;omega)⟩
theorem bz.take{l:List AV}{bf:List Value}(h:bz w m O B l bf)(k:Nat):bz w m O B (l.take k) (bf.take k):=
 ⟨by simp[h.1],λi h1 h2=>by rw[List.getElem_take,List.getElem_take];exact h.2 _ (by simp at h1;omega) (by simp at h2;omega)⟩
theorem R.uR{l:List AV}{bf:List Value}(h:bz w m O B l bf)(hf:∀x∈l,conf none x=true):R w m O B (.ag l) (.agg bf.toArray):=
 .ag (by simp[h.1]) (λi h1 h2=>by simpa using h.2 i h1 (by simpa using h2)) hf
theorem R.n_{l:List AV}{u:Value}(h:R w m O B (.ag l) u):∃bf:Array Value,u= .agg bf/\bz w m O B l bf.toList/\∀x∈l,conf none x=true:=by
 cases h with
 |ag ao ak hf=>exact⟨_,rfl,⟨by simpa using ao,λi h1 h2=>by simpa using ak i h1 (by simpa using h2)⟩,hf⟩
theorem R.HP{l:List AV}{u:Value}(h:R w m O B (.a6 l) u):∃bf:Array Value,u= .tuple bf/\bz w m O B l bf.toList:=by
 cases h with
 |a6 ao ak=>exact⟨_,rfl,by simpa using ao,λi h1 h2=>by simpa using ak i h1 (by simpa using h2)⟩
theorem R.rM{l:List AV}{bf:List Value}(h:bz w m O B l bf):R w m O B (.a6 l) (.tuple bf.toArray):=
 .a6 (by simp[h.1]) (λi h1 h2=>by simpa using h.2 i h1 (by simpa using h2))
theorem R.undef:R w m O B dB undef:=.a6 I (λi h=>by simp at h)
theorem R.cells{v:AV}{u:Value}(h:R w m O B v u):bz w m O B v.cells u.cells.toList:=by
 have h0:=h;cases h with
 |ag ao ak hf=>obtain⟨bf,hu,hl,_⟩:=R.n_ h0;cases hu;exact hl
 |y h=>rcases h.alt with⟨_,_,rfl⟩|⟨_,rfl⟩<;>exact bz.cons h0 bz.nil
 |fs hu h=>subst hu;exact bz.cons h0 bz.nil
 |_=>exact bz.cons h0 bz.nil
theorem R.leafs{v:AV}{u:Value}{U:Option Nat}(h:R w m O B v u)(aa:conf U v=true):∀x∈v.cells,conf none x=true:=by
 cases h with
 |ag ao ak hf=>exact hf
 |a6 ao ak=>cases U<;>simp[conf] at aa
 |_=>intro x hx;simp only[AV.cells,List.mem_singleton] at hx;subst hx;rfl
theorem R.OU{v:AV}{u:Value}(h:R w m O B v u)(au:conf none v=true):u.oneCell'=true:=by
 cases h with
 |y h=>rcases h.alt with⟨_,_,rfl⟩|⟨_,rfl⟩<;>rfl
 |fs hu h=>subst hu;rfl
 |_=>first|rfl|(simp[conf] at au)
theorem jY{t:TypeId}{U:Option Nat}(h:shapeOf P t=some U)(w:World):
  (isAgg t).run P w= .ok U.isSome w/\(sizeOf t).run P w= .ok (shN U) w/\∃i,P.info? t=some i/\i.size=shN U:=by
 unfold shapeOf at h;split at h<;>try (cases h;done)
 ·rename_i a2 i hu hi;cases h;exact⟨by simp[isAgg,run_underlying hu],by simp[sizeOf,typeInfo,hi,shN],i,hi,rfl⟩
 ·rename_i n e i hu hi;cases h;exact⟨by simp[isAgg,run_underlying hu],by simp[sizeOf,typeInfo,hi,shN],i,hi,rfl⟩
 ·rename_i d i h1 h2 hu hi;split at h
  ·rename_i ao;cases h;refine⟨?_,by simp[sizeOf,typeInfo,hi,shN,ao],i,hi,by simp[shN,ao]⟩;simp only[isAgg,Sem.run_bind,run_underlying hu,Result.andThen_ok];cases d<;>first|rfl|(exfalso;first|exact h1 _ rfl|exact h2 _ _ I)
  ·cases h
theorem jZ(b o k:Nat):(⟨b,o,none⟩:Addr).add k=⟨b,o+k,none⟩:=by
 unfold Addr.add;split
 ·rename_i h;subst h;rfl
 ·rfl
theorem CI{c:List AV}{v:AV}(h:dI none c=some v):∃r,c=v::r:=by
 cases c with
 |nil=>simp[dI] at h
 |cons x r=>simp[dI] at h;subst h;exact⟨r,rfl⟩
theorem CJ{n:Nat}{c:List AV}{v:AV}(h:dI (some n) c=some v):v= .ag (c.take n)/\n<=c.length:=by
 simp only[dI] at h;split at h
 ·rename_i hl;cases h;refine⟨rfl,?_⟩;rw[List.length_take] at hl;omega
 ·cases h
theorem OV{t:TypeId}{U:Option Nat}(gW:shapeOf P t=some U){b off:Nat}{bf:List Value}{c:List AV}(aa:bz w m O B c bf)
  (hw:∀j,j<bf.length->w.cell? ⟨b,off+j,none⟩=bf[j]?) {v:AV} (au:dI U c=some v) (hf:∀x∈c,conf none x=true):
  ∃u,(loadVar t ⟨b,off,none⟩).run P w= .ok u w/\R w m O B v u:=by
 obtain⟨h1,h2,_⟩:=jY gW w;cases U with
 |none=>
  obtain⟨r,rfl⟩:=CI au;obtain⟨u,hu,ak⟩:=aa.get (i:=0) (v:=v) I;have:=hw 0 (by rw[aa.1];simp);rw[Nat.add_zero,hu] at this;exact⟨u,by simp[loadVar,h1,this],ak⟩
 |some n=>
  obtain⟨rfl,hn⟩:=CJ au;have hlen:(bf.take n).length=n:=by rw[List.length_take,aa.1];omega
  have hl:=run_loadCells_list (P:=P) w ⟨b,off,none⟩ (bf.take n) (λj x hx=>by
   rw[jZ];obtain⟨aA,eE⟩:=List.getElem?_eq_some_iff.1 hx;rw[hw j (by rw[List.length_take] at aA;omega)];rw[List.getElem_take] at eE;rw[<-eE];exact List.getElem?_eq_getElem _)
  rw[hlen] at hl;refine⟨.agg (bf.take n).toArray,by simp[loadVar,h1,h2,shN,hl],R.uR (aa.take n) (λx hx=>hf x (List.mem_of_mem_take hx))⟩
end
section
variable {P:Program}{J:ad}{w:World}{m:Nat->Option Nat}{B:Nat}
theorem Rel.cells(ak:Rel P J w m B){id aB:Nat}{c:List AV}(hm:m id=some aB)(hg:J.get id=some (.cells c)):
  ∃arr el bn,w.heap[aB]? =some (.cells arr el bn)/\bz w m (bj J m) B c (arr.toList.take c.length)/\c.length<=arr.size/\(∀i,i<arr.size->(decide (bn.1<=i)&&decide (i<bn.2))=false)/\∀x∈c,conf none x=true:=by
 obtain⟨bH,h1,h2⟩:=ak.obj id aB _ hm hg I;cases h2 with
 | @cells _ arr el bn hl hj bg hf=>
  refine⟨arr,el,bn,h1,⟨by simp;omega,λi h3 aQ=>?_⟩,hl,bg,hf⟩;simpa using hj i h3 (by omega)
theorem wT{b:Nat}{arr:Array Value}{el:TypeId}{bn:Nat×Nat}(h:w.heap[b]? =some (.cells arr el bn))(i:Nat):w.cell? ⟨b,i,none⟩=arr[i]? :=by
 simp[World.cell?,h]
theorem HQ{b:Nat}{arr:Array Value}{el:TypeId}{bn:Nat×Nat}(h:w.heap[b]? =some (.cells arr el bn))(i:Nat):w.frozen? ⟨b,i,none⟩=(decide (bn.1<=i)&&decide (i<bn.2)):=by
 simp[World.frozen?,h]
theorem OW(ak:Rel P J w m B){t:TypeId}{U:Option Nat}(gW:shapeOf P t=some U){id off aB:Nat}{c:List AV}{v:AV}(hm:m id=some aB)(hg:J.get id=some (.cells c))(au:dI U (c.drop off)=some v):
  ∃u,(loadVar t ⟨aB,off,none⟩).run P w= .ok u w/\R w m (bj J m) B v u:=by
 obtain⟨arr,el,bn,h1,h2,h3,_,hf⟩:=ak.cells hm hg;refine OV gW (h2.drop off) (λj aA=>?_) au (λx hx=>hf x (List.mem_of_mem_drop hx));rw[wT h1];simp only[List.length_drop,List.length_take,Array.length_toList] at aA;rw[List.getElem?_drop,List.getElem?_take_of_lt (by omega)];simp
theorem a1H{O:Nat->Prop}{t:TypeId}{U:Option Nat}(gW:shapeOf P t=some U){old:Bool}{v:AV}{u:Value}(h:R w m O B (.df old v) u)(au:conf U v=true):
  ∃a b4,u= .pointer (some a)/\(loadVar t a).run P w= .ok b4 w/\R w m O B v b4:=by
 cases h with
 | @df _ _ _ _ _ aB off a8 cb hb bV aa hj hf=>
  have hl:bz w m O B v.cells ((List.range v.cells.length).map a8):=⟨by simp,λi h1 h2=>by simpa using (hj i h1).up⟩
  have ht:dI U v.cells=some v:=by
   cases U with
   |none=>cases v<;>first|rfl|(simp[conf] at au)
   |some n=>
    cases v<;>simp[conf] at au;rename_i l;subst au;simp[dI,AV.cells]
  obtain⟨b4,h1,h2⟩:=OV (t:=t) gW (b:=aB) (off:=off) hl (λj aA=>by
   simp only[List.length_map,List.length_range] at aA;rw[aa j aA];simp[aA]) ht hf
  exact⟨_,b4,rfl,h1,h2⟩
theorem zd{c bM:List AV}{off:Nat}{v:List AV}(h:storeCells c off v=some bM):off+v.length<=c.length/\bM=c.take off++(v++c.drop (off+v.length)):=by
 unfold Lyc.storeCells at h;split at h
 ·rename_i hb;cases h;exact⟨Nat.le_of_ble_eq_true hb,rfl⟩
 ·cases h
theorem HR(ak:Rel P J w m B){f id off aB:Nat}{c bM:List AV}{bf:List AV}{us:List Value}(hf:f<=id)(hm:m id=some aB)(hg:J.get id=some (.cells c))
  (ao:Lyc.storeCells c off bf=some bM) (lY:bz w m (bj J m) B bf us) (jk:∀x∈bf,conf none x=true):
  ∃av,(Go.storeCells ⟨aB,off,none⟩ us).run P w= .ok () av/\Rel P (J.set id (.cells bM)) av m B/\Ext f J w m (J.set id (.cells bM)) av m:=by
 obtain⟨hle,rfl⟩:=zd ao;obtain⟨arr,el,bn,hh,aa,rN,bg,jA⟩:=ak.cells hm hg;have hlen:us.length=bf.length:=lY.1;have h1:∀u∈us,u.oneCell'=true:=λu hu=>by
  obtain⟨i,hi,rfl⟩:=List.getElem_of_mem hu;exact(lY.2 i (by omega) hi).OU (jk _ (List.getElem_mem _))
 have b2:=run_storeCells_cells (P:=P) aB off us 0 w
  (λj aA=>by rw[wT hh,Array.getElem?_eq_getElem (by omega)];rfl)
  (λj aA=>by rw[HQ hh];exact bg _ (by omega)) h1
 obtain⟨hE,ky,mH,rO⟩:=HL us w aB (off+0);have uS:=HJ us w aB (off+0) arr el bn hh;refine⟨_,b2,ak.cR hf hm ⟨_,hg,rfl⟩ _ (.cells _) hE (λb hb=>heap_setCells_other us w aB _ b hb) ?_ ky mH rO (λ_=>⟨_,uS,?_⟩)⟩
 ·intro n hn;unfold dV at hn ⊢;rw[hh] at hn;rw[uS];simpa [uO] using hn
 ·have gA:∀i,(wr arr (off+0) us)[i]? =if off<=i/\i<off+us.length then us[i-off]? else arr[i]? :=λi=>by
   have:=CH us arr (off+0) i (by omega);simpa using this
  have kz:(c.take off++(bf++c.drop (off+bf.length))).length=c.length:=by simp;omega
  refine .cells (by rw[uO,kz];exact rN) (λi h h'=>?_) (by rw[uO];exact bg) (λx hx=>by
    rcases List.mem_append.1 hx with hx|hx
    ·exact jA x (List.mem_of_mem_take hx)
    ·rcases List.mem_append.1 hx with hx|hx
     ·exact jk x hx
     ·exact jA x (List.mem_of_mem_drop hx))
  rw[kz] at h;have hi:=gA i;rw[Array.getElem?_eq_getElem h'] at hi;have hL:(c.take off++(bf++c.drop (off+bf.length)))[i]? =if off<=i/\i<off+us.length then bf[i-off]? else c[i]? :=by
   rw[List.getElem?_append];simp only[List.length_take];by_cases bJ:i<off
   ·rw[if_pos (by omega),if_neg (by omega),List.getElem?_take_of_lt bJ]
   ·rw[if_neg (by omega),List.getElem?_append];by_cases cu:i-min off c.length<bf.length
    ·rw[if_pos cu,if_pos (by omega),show min off c.length=off by omega]
    ·rw[if_neg cu,if_neg (by omega),List.getElem?_drop]
     congr 1;omega
  have ze:(c.take off++(bf++c.drop (off+bf.length)))[i]? =some ((c.take off++(bf++c.drop (off+bf.length)))[i]'(by rw[kz];exact h)):=List.getElem?_eq_getElem _;rw[hL] at ze;by_cases ej:off<=i/\i<off+us.length
  ·rw[if_pos ej] at ze hi;obtain⟨u,hu,iC⟩:=lY.get ze;rw[hu] at hi;cases hi;exact iC
  ·rw[if_neg ej] at ze hi;obtain⟨u,hu,iC⟩:=aa.get ze;rw[List.getElem?_take_of_lt h] at hu;have:arr[i]? =some u:=by simpa using hu
   rw[this] at hi;cases hi;exact iC
end
def eX(P:Program)(B f:Nat)(J:ad)(w:World)(m:Nat->Option Nat)(v:AV)(af:ad)(r:Result Next):Prop:=
 ∃u av aP,(r= .ok (.value u) av\/(r= .ok .skip av/\u=undef))/\R av aP (bj af aP) B v u/\Rel P af av aP B/\Ext f J w m af av aP
section
variable {P:Program}{J:ad}{w:World}{m:Nat->Option Nat}{B:Nat}{f:Nat}
theorem eX.pure{v:AV}{u:Value}{r:Result Next}(ak:Rel P J w m B)(h:r= .ok (.value u) w)(au:R w m (bj J m) B v u):eX P B f J w m v J r:=
 ⟨u,w,m,.inl h,au,ak,Ext.refl _ _ _ _⟩
def Globs(env:Env)(w:World)(B:Nat):Prop:=
 ∀g v,env.kS g=some v->∀dW,R w (λ_=>none) (λb=>B<=b) dW (.df true v) (.pointer (some ⟨g,0,none⟩))
theorem Globs.get{env:Env}{O:Nat->Prop}(h:Globs env w B)(cb:∀b,O b->B<=b){g:Nat}{v:AV}(hg:env.kS g=some v):R w m O B (.df true v) (.pointer (some ⟨g,0,none⟩)):=
 (h g v hg B).mono (λ_ _ h=>by cases h) (Nat.le_refl _) (λ_ _ h=>h) (λb _ hb=>⟨rfl,λho=>hb (cb b ho)⟩)
theorem HS{env:Env}{O:Nat->Prop}(cb:∀b,O b->B<=b)(cZ:Globs env w B){al:aX AV}{a:Act}(ao:hC w m O B al a.tmps.toList){x:Operand}{bC:aF}(hx:opdOf x=some bC){v:AV}(au:evalA env al bC=some v):
  R w m O B v (a.eval x):=by
 cases x with
 |tmp t=>
  cases hx;obtain⟨u,hu,ak⟩:=ao.1 t v au;have:a.eval (.tmp t)=u:=by
   simp only[Act.eval];rw[Array.getElem?_toList] at hu;simp[hu]
  rw[this];exact ak
 |const c=>
  simp only[opdOf] at hx;split at hx<;>cases hx;rename_i bA aa;simp only[evalA,Option.some.injEq] at au;subst au;exact R.ofValue aa
 |func g=>
  cases hx;simp only[evalA,Option.some.injEq] at au;subst au;exact .ct I (λi h=>by simp at h) I (λi h=>by simp at h)
 |_=>
  cases hx;simp only[evalA] at au;split at au<;>cases au;rename_i bA hg;exact cZ.get cb hg
theorem zf{env:Env}{O:Nat->Prop}(cb:∀b,O b->B<=b)(cZ:Globs env w B){al:aX AV}{a:Act}(ao:hC w m O B al a.tmps.toList){xs:List Operand}{bC:List aF}(hx:uM xs=some bC){bf:List AV}(au:mapO (evalA env al) bC=some bf):
  bz w m O B bf (xs.map a.eval):=by
 obtain⟨h1,h2⟩:=uQ hx;obtain⟨h3,aQ⟩:=mG au;refine⟨by simp[h1,h3],λi hi cY=>?_⟩;simp only[List.getElem_map];have zg:i<bC.length:=by omega
 have a1I:i<xs.length:=by omega
 exact HS cb cZ ao (h2 i a1I zg) (aQ i zg hi)
theorem a1J(ak:Rel P J w m B){t:TypeId}{U:Option Nat}(gW:shapeOf P t=some U){uT v:AV}{u:Value}(ar:R w m (bj J m) B uT u)
  (h:pc J U uT=some v):∃b4,(Instr.loadAt t u).run P w= .ok b4 w/\R w m (bj J m) B v b4:=by
 unfold pc at h;cases ar with
 | @p _ _ _ id aB off hm=>
  simp only at h;cases hg:J.get id with
  |none=>simp[hg] at h
  |some o=>
   cases o<;>simp only[hg] at h<;>try (cases h;done)
   obtain⟨b4,h1,h2⟩:=OW ak gW hm hg h;exact⟨b4,by simp[Instr.loadAt,Instr.sureAddr,h1],h2⟩
 |df a8 cb hb bV aa hj hf=>
  simp only at h;split at h
  ·rename_i au;cases h;obtain⟨a,b4,ha,h1,h2⟩:=a1H (O:=bj J m) gW (.df a8 cb hb bV aa hj hf) au;cases ha;exact⟨b4,by simp[Instr.loadAt,Instr.sureAddr,h1],h2⟩
  ·cases h
 |_=>simp at h
theorem a1K{U:Option Nat}{v:AV}{u:Value}{O:Nat->Prop}(au:R w m O B v u)(aa:conf U v=true):u.cells.size=shN U/\v.cells.length=shN U:=by
 have h:=au.cells.1;cases U with
 |none=>cases v<;>simp[conf,AV.cells,shN] at aa h ⊢ <;>exact h
 |some n=>cases v<;>simp[conf,AV.cells,shN] at aa h ⊢;omega
theorem a1L(ak:Rel P J w m B){t:TypeId}{U:Option Nat}(gW:shapeOf P t=some U){id off aB:Nat}{c bM:List AV}{x:AV}{u:Value}(hf:f<=id)(hm:m id=some aB)(hg:J.get id=some (.cells c))(aa:conf U x=true)
  (ao:Lyc.storeCells c off x.cells=some bM) (hx:R w m (bj J m) B x u):
  ∃av,(Instr.storeAt t (.pointer (some ⟨aB,off,none⟩)) u).run P w= .ok () av/\Rel P (J.set id (.cells bM)) av m B/\Ext f J w m (J.set id (.cells bM)) av m:=by
 obtain⟨av,h2,h3,aQ⟩:=HR ak hf hm hg ao hx.cells (hx.leafs aa);obtain⟨_,cj,_⟩:=jY gW w;refine⟨av,?_,h3,aQ⟩;simp only[Instr.storeAt,Instr.sureAddr,Sem.run_bind,Sem.run_pure,Result.andThen_ok,storeVar,cj,(a1K hx aa).1,ne_eq,not_true_eq_false,if_false];exact h2
theorem CK(ak:Rel P J w m B)(f:Nat){el:TypeId}{c:List AV}{cs:Array Value}(aa:bz w m (bj J m) B c cs.toList)(hf:∀x∈c,conf none x=true):
  ∃av aP,(newRow el cs).run P w= .ok ⟨w.heap.size,0,none⟩ av/\aP J.next=some w.heap.size/\av.heap[w.heap.size]? =some (.cells cs el (0,0))/\Rel P (J.push (.cells c)) av aP B/\Ext f J w m (J.push (.cells c)) av aP:=by
 obtain⟨h1,h2⟩:=ak.alloc f {w with heap:=w.heap.push (.cells cs el)} (.cells c) (.cells cs el) I I I I I
  (.cells (by have:=aa.1;simp at this;omega) (λi h h'=>by have:=aa.2 i h (by simpa using h');simpa using this) (λi _=>by simp) hf)
 exact⟨_,_,by simp[newRow],gz _ _ _,by simp,h1,h2⟩
theorem a1M(ak:Rel P J w m B){el:TypeId}{x:AV}{u:Value}(hx:R w m (bj J m) B x u)(hf:∀y∈x.cells,conf none y=true):
  ∃b4 av aP,(Instr.box el u).run P w= .ok b4 av/\R av aP (bj (J.push (.cells x.cells)) aP) B (iz J.next 0) b4/\Rel P (J.push (.cells x.cells)) av aP B/\Ext f J w m (J.push (.cells x.cells)) av aP:=by
 obtain⟨av,aP,h1,h2,_,h3,aQ⟩:=CK ak f (el:=el) hx.cells hf;exact⟨_,av,aP,by simp[Instr.box,newVar,h1],.p h2,h3,aQ⟩
theorem a1N{v:Value}{x:AV}(h:ofValue v=some x):∀y∈x.cells,conf none y=true:=by
 unfold Lyc.ofValue at h;split at h
 ·split at h
  ·rename_i l eo hx;cases h;intro y hy;obtain⟨i,hi,rfl⟩:=List.getElem_of_mem hy;exact HO ((uQ hx).2 i (by have:=(uQ hx).1;simp only[AV.cells] at hi;omega) hi)
  ·cases h
 ·split at h
  ·cases h;intro y hy;simp only[AV.cells,List.mem_singleton] at hy;subst hy;rfl
  ·cases h
 ·have aa:=HO h;cases x<;>first|(intro y hy;simp only[AV.cells,List.mem_singleton] at hy;subst hy;exact aa)|(simp[conf] at aa)
theorem pj{t:TypeId}{z:AV}(h:zeroOf P t=some z)(w:World):∃u,(zeroValue t).run P w= .ok u w/\(∀w m O B,R w m O B z u)/\∀y∈z.cells,conf none y=true:=by
 unfold zeroOf at h;split at h<;>try (cases h;done)
 rename_i i hi;split at h<;>try (cases h;done)
 rename_i v au;exact⟨v,by simp[zeroValue,typeInfo,hi,au],λw m O B=>R.ofValue h,a1N h⟩
theorem a1O(ak:Rel P J w m B){t:TypeId}{z:AV}(bg:zeroOf P t=some z):
  ∃b4 av aP,(Instr.alloc t true (.tuple #[])).run P w= .ok b4 av/\R av aP (bj (J.push (.cells z.cells)) aP) B (iz J.next 0) b4/\Rel P (J.push (.cells z.cells)) av aP B/\Ext f J w m (J.push (.cells z.cells)) av aP:=by
 obtain⟨u,h1,h2,hf⟩:=pj bg w;obtain⟨av,aP,h3,aQ,_,bJ,cu⟩:=CK ak f (el:=t) (h2 w m (bj J m) B).cells hf;exact⟨_,av,aP,by simp[Instr.alloc,h1,newVar,h3],.p aQ,bJ,cu⟩
theorem OX(k:IntKind)(n:Int):wrapN k n=k.wrap n:=by
 unfold wrapN;split
 ·rename_i x;cases h:Nat.blt x 9223372036854775808 with
  |false=>rfl
  |true=>
   have hx:x<9223372036854775808:=by simpa [Nat.blt_eq] using h
   show Int.ofNat x=IntKind.i64.wrap (Int.ofNat x);have:(Int.ofNat x:Int)=(x:Int):=rfl;rw[this];have e:(x:Int)%2^64=x:=Int.emod_eq_of_lt (by omega) (by omega);simp only[IntKind.wrap,IntKind.bits,IntKind.signed,e];rw[if_neg (by simp;omega)]
 ·rfl
end
section
variable {P:Program}{w:World}{m:Nat->Option Nat}{O:Nat->Prop}{B:Nat}
theorem zh{v:AV}{n:Nat}(h:natOf v=some n):∃k,v= .i k (Int.ofNat n):=by
 unfold natOf at h;split at h<;>cases h;exact⟨_,rfl⟩
theorem OY{a b:Nat}(ha:a<256)(hb:b<256)(h:a.toUInt8=b.toUInt8):a=b:=by
 have:=congrArg UInt8.toNat h;simp at this;omega
theorem OZ{a b:Nat}(ha:a<256)(hb:b<256):a.toUInt8<b.toUInt8↔a<b:=by
 rw[UInt8.lt_iff_toNat_lt];simp;omega
theorem O0(l:List Nat):(strOf l).data.toList=l.map Nat.toUInt8:=by simp[strOf]
theorem wU(l:List Nat):(strOf l).toList=l.map Nat.toUInt8:=by
 rw[Go.ByteArray.toList_eq,O0]
theorem sX(l:List Nat):(strOf l).size=l.length:=by
 show(strOf l).data.size=_;simp[strOf]
theorem mI:∀(x y:List Nat),eqL x y=true↔x=y
 |[],[]=>by simp[eqL]
 |[],_::_=>by simp[eqL]
 |_::_,[]=>by simp[eqL]
 |a::x,b::y=>by
  show(cond (Nat.beq a b) (eqL x y) false)=true↔_;cases h:Nat.beq a b with
  |false=>
   simp only[cond_false,Bool.false_eq_true,false_iff,List.cons.injEq,not_and];intro e;subst e;simp[Nat.beq_refl] at h
  |true=>
   have:a=b:=Nat.eq_of_beq_eq_true h;subst this;simp[mI x y]
theorem HT:∀(x y:List Nat),(∀c∈x,c<256)->(∀c∈y,c<256)->x.map Nat.toUInt8=y.map Nat.toUInt8->x=y
 |[],[],_,_,_=>rfl
 |[],_::_,_,_,h=>by simp at h
 |_::_,[],_,_,h=>by simp at h
 |a::x,b::y,hx,hy,h=>by
  simp only[List.map_cons,List.cons.injEq] at h;rw[OY (hx a (by simp)) (hy b (by simp)) h.1,HT x y (λc aa=>hx c (by simp[aa])) (λc aa=>hy c (by simp[aa])) h.2]
theorem a1P{x y:List Nat}(hx:∀c∈x,c<256)(hy:∀c∈y,c<256):((strOf x).toList==(strOf y).toList)=eqL x y:=by
 rw[Bool.eq_iff_iff,mI,beq_iff_eq,wU,wU];exact⟨HT x y hx hy,λh=>by rw[h]⟩
theorem O1:∀(x y:List Nat),(∀c∈x,c<256)->(∀c∈y,c<256)->Op.bytesLess (x.map Nat.toUInt8) (y.map Nat.toUInt8)=gT x y
 |[],[],_,_=>rfl
 |[],_::_,_,_=>rfl
 |_::_,[],_,_=>rfl
 |a::x,b::y,hx,hy=>by
  have ha:=hx a (by simp);have hb:=hy b (by simp);have aD:=O1 x y (λc aa=>hx c (by simp[aa])) (λc aa=>hy c (by simp[aa]));show(decide (a.toUInt8<b.toUInt8)||(a.toUInt8==b.toUInt8&&Op.bytesLess (x.map Nat.toUInt8) (y.map Nat.toUInt8)))=cond (Nat.blt a b) true (cond (Nat.beq a b) (gT x y) false);rw[aD];by_cases h:a<b
  ·have h1:Nat.blt a b=true:=by simpa [Nat.blt_eq] using h
   have h2:=(OZ ha hb).2 h;simp[h1,h2]
  ·have h1:Nat.blt a b=false:=by
    cases h3:Nat.blt a b
    ·rfl
    ·exact absurd (by simpa [Nat.blt_eq] using h3) h
   have h2:¬a.toUInt8<b.toUInt8:=λaQ=>h ((OZ ha hb).1 aQ);by_cases he:a=b
   ·subst he;simp[h1]
   ·have aQ:Nat.beq a b=false:=by
     cases bJ:Nat.beq a b
     ·rfl
     ·exact absurd (Nat.eq_of_beq_eq_true bJ) he
    have bJ:¬a.toUInt8=b.toUInt8:=λcu=>he (OY ha hb cu);simp[h1,h2,aQ,bJ]
theorem R.nm{l:List Nat}{u:Value}(h:R w m O B (.s l) u):u= .string (strOf l)/\∀c∈l,c<256:=by
 cases h with
 |s _ h=>exact⟨rfl,h⟩
theorem R.kA{k:IntKind}{n:Int}{u:Value}(h:R w m O B (.i k n) u):u= .int k n:=by cases h;rfl
theorem R.sY{x:Bool}{u:Value}(h:R w m O B (.b x) u):u= .bool x:=by cases h;rfl
theorem R.sZ{id off:Nat}{u:Value}(h:R w m O B (.p (some (id,off))) u):∃aB,m id=some aB/\u= .pointer (some ⟨aB,off,none⟩):=by
 cases h with
 |p h=>exact⟨_,h,rfl⟩
theorem R.CL{id:Nat}{u:Value}(h:R w m O B (.m (some id)) u):∃aB,m id=some aB/\u= .map (some aB):=by
 cases h with
 |mp h=>exact⟨_,h,rfl⟩
theorem a1Q(x y:List Nat):strOf x++strOf y=strOf (x++y):=by
 apply ByteArray.ext;rw[ByteArray.data_append];simp[strOf]
theorem O2:∀(x y:List Nat),gT y x=false->gT x y=true\/eqL x y=true
 |[],[],_=>.inr I
 |[],_::_,_=>.inl I
 |_::_,[],h=>by simp[gT] at h
 |a::x,b::y,h=>by
  have h':cond (Nat.blt b a) true (cond (Nat.beq b a) (gT y x) false)=false:=h;show cond (Nat.blt a b) true (cond (Nat.beq a b) (gT x y) false)=true\/cond (Nat.beq a b) (eqL x y) false=true;have a1R:¬b<a:=λh1=>by
   have:Nat.blt b a=true:=by simpa [Nat.blt_eq] using h1
   simp[this] at h'
  have j0:Nat.blt b a=false:=by
   cases h3:Nat.blt b a
   ·rfl
   ·exact absurd (by simpa [Nat.blt_eq] using h3) a1R
  rw[j0] at h';by_cases he:a=b
  ·subst he;simp only[Nat.beq_refl,cond_true,cond_false] at h' ⊢;rcases O2 x y h' with h1|h1
   ·left;rw[h1];simp
   ·right;exact h1
  ·left;have:Nat.blt a b=true:=by simp[Nat.blt_eq];omega
   rw[this];rfl
theorem O3:∀(x y:List Nat),gT x y=true->gT y x=false/\eqL x y=false
 |[],[],h=>by simp[gT] at h
 |[],_::_,_=>⟨rfl,rfl⟩
 |_::_,[],h=>by simp[gT] at h
 |a::x,b::y,h=>by
  have h':cond (Nat.blt a b) true (cond (Nat.beq a b) (gT x y) false)=true:=h;show cond (Nat.blt b a) true (cond (Nat.beq b a) (gT y x) false)=false/\cond (Nat.beq a b) (eqL x y) false=false;by_cases hl:a<b
  ·have h1:Nat.blt b a=false:=by
    cases h3:Nat.blt b a
    ·rfl
    ·have:b<a:=by simpa [Nat.blt_eq] using h3
     omega
   have h2:Nat.beq b a=false:=by
    cases h3:Nat.beq b a
    ·rfl
    ·have:=Nat.eq_of_beq_eq_true h3;omega
   have aQ:Nat.beq a b=false:=by
    cases h3:Nat.beq a b
    ·rfl
    ·have:=Nat.eq_of_beq_eq_true h3;omega
   simp[h1,h2,aQ]
  ·have h1:Nat.blt a b=false:=by
    cases h3:Nat.blt a b
    ·rfl
    ·exact absurd (by simpa [Nat.blt_eq] using h3) hl
   rw[h1] at h';cases h2:Nat.beq a b with
   |false=>rw[h2] at h';simp at h'
   |true=>
    rw[h2] at h';have:=Nat.eq_of_beq_eq_true h2;subst this;simp only[cond_false,cond_true] at h';obtain⟨h3,aQ⟩:=O3 x y h';simp[h1,Nat.beq_refl,h3,aQ]
theorem O4(a:List Nat):∀(ex:List (List Nat)),n4 a ex=true->a∈ex
 |[],h=>by cases h
 |x::ex,h=>by
  have h:cond (eqL a x) true (n4 a ex)=true:=h;cases hx:eqL a x with
  |true=>rw[(mI a x).1 hx];exact List.mem_cons_self
  |false=>rw[hx] at h;exact List.mem_cons_of_mem _ (O4 a ex h)
theorem CM{ex:List (List Nat)}{a:List Nat}{u:Value}(h:R w m O B (.gK ex) u)(hm:n4 a ex=true):∃s:ByteArray,u= .string s/\s≠strOf a:=by
 cases h with
 |gK h=>exact⟨_,rfl,h a (O4 a ex hm)⟩
theorem O5{a b:ByteArray}(h:a≠b):¬a.toList=b.toList:=λe=>h (by
 rw[ByteArray.toList_eq,ByteArray.toList_eq] at e;cases a;cases b;simp only[ByteArray.mk.injEq];exact Array.ext' e)
theorem O6{a b:ByteArray}(h:a≠b):(a==b)=false:=by
 cases hb:a==b with
 |false=>rfl
 |true=>exact absurd ((MapKept.bytes_beq _ _).1 hb) h
theorem O7{k:IntKind}(az:k= .u8\/k= .i64){n:Nat}(h:n<256):k.wrap (Int.ofNat n)=Int.ofNat n:=by
 rcases az with rfl|rfl
 ·have:(Int.ofNat n)%2^8=Int.ofNat n:=Int.emod_eq_of_lt (Int.natCast_nonneg _) (by show((n:Nat):Int)<2^8;omega);simp only[IntKind.wrap,IntKind.bits,IntKind.signed,this];simp
 ·have:(Int.ofNat n)%2^64=Int.ofNat n:=Int.emod_eq_of_lt (Int.natCast_nonneg _) (by show((n:Nat):Int)<2^64;omega);have h2:¬(2^63:Int)<=(Int.ofNat n):=by show ¬(2^63:Int)<=((n:Nat):Int);omega
  simp only[IntKind.wrap,IntKind.bits,IntKind.signed,this];simp at h2 ⊢;omega
theorem O8{op:BinOp}{t:TypeId}{x y v:AV}{a b:Value}(ha:R w m O B x a)(hb:R w m O B y b)(h:binop op x y=some v)(qw:∀hi,x≠ .g1 hi):
  ∃u,(do eqGuard op t (.tmp 0) (.tmp 0) a b;Go.binOp op t a b:Sem Value).run P w= .ok u w/\R w m O B v u/\∀eo dJ,(do eqGuard op t eo dJ a b;Go.binOp op t a b:Sem Value)=(do eqGuard op t (.tmp 0) (.tmp 0) a b;Go.binOp op t a b:Sem Value):=by
 unfold binop at h;split at h
 ·rename_i k n l q;obtain rfl:=ha.kA;obtain rfl:=hb.kA;have hg:∀eo dJ,eqGuard op t eo dJ (.int k n) (.int l q)=pure ():=λeo dJ=>by unfold eqGuard;cases op<;>rfl
  simp only[hg];refine(λ⟨u,h1,h2⟩=>⟨u,h1,h2,λ_ _=>trivial⟩:(∃u,(do pure ();Go.binOp op t (.int k n) (.int l q):Sem Value).run P w= .ok u w/\R w m O B v u)->_) ?_;split at h
  ·split at h<;>cases h;rename_i aS;exact⟨_,by simp[Go.binOp,Op.shift,aS],.i _ _⟩
  ·split at h<;>cases h;rename_i aS;exact⟨_,by simp[Go.binOp,Op.shift,aS],.i _ _⟩
  ·rename_i h1 h2;split at h
   ·rename_i qx;subst qx;have hF:(n==q)=decide (n=q):=by rw[Bool.eq_iff_iff];simp
    have HU:(n != q)= !decide (n=q):=by rw[Bool.eq_iff_iff];simp
    cases op<;>first
     |exact absurd I h1
     |exact absurd I h2
     |(
       simp only[binI] at h
       first
       |(
         cases h
         first
         |(refine⟨_,?_,R.i _ _⟩;simp[Go.binOp,Op.intArith,OX];done)
         |(refine⟨_,?_,R.b _⟩;simp[Go.binOp,Op.intCmp,hF,HU];done)
         |(refine⟨_,?_,R.b _⟩;simp only[Go.binOp,Op.intCmp,ne_eq,not_true_eq_false,if_false,Sem.run_bind,Sem.run_pure,Result.andThen_ok];congr 2;rw[Bool.eq_iff_iff];simp;done))
       |(split at h<;>cases h;rename_i aS;refine⟨_,?_,R.i _ _⟩;simp[Go.binOp,Op.intDiv,aS];done)
       |(unfold Ow at h;dsimp only at h;cases h;refine⟨_,?_,R.i _ _⟩;simp[Go.binOp,Op.intBits];done))
   ·cases h
 ·rename_i s1 s2;obtain⟨rfl,h1⟩:=ha.nm;obtain⟨rfl,h2⟩:=hb.nm;have hg:∀eo dJ,eqGuard op t eo dJ (.string (strOf s1)) (.string (strOf s2))=pure ():=λeo dJ=>by unfold eqGuard;cases op<;>rfl
  simp only[hg];refine(λ⟨u,h1,h2⟩=>⟨u,h1,h2,λ_ _=>trivial⟩:(∃u,(do pure ();Go.binOp op t (.string (strOf s1)) (.string (strOf s2)):Sem Value).run P w= .ok u w/\R w m O B v u)->_) ?_;have aN:=a1P h1 h2;have a4:Op.bytesLess (strOf s1).toList (strOf s2).toList=gT s1 s2:=by rw[wU,wU];exact O1 s1 s2 h1 h2
  have cQ:(gT s1 s2||eqL s1 s2)= !gT s2 s1:=by
   cases h3:gT s2 s1 with
   |true=>
    have:=O3 s2 s1 h3;have bJ:eqL s1 s2=false:=by
     cases cu:eqL s1 s2 with
     |false=>rfl
     |true=>
      have:=(mI s1 s2).1 cu;subst this;exact absurd ((mI s1 s1).2 I) (by rw[this.2];simp)
    simp[this.1,bJ]
   |false=>rcases O2 s1 s2 h3 with aQ|aQ<;>simp[aQ]
  have h6:(!gT s1 s2&& !eqL s1 s2)=gT s2 s1:=by
   have:=congrArg Bool.not cQ;simpa using this
  cases op<;>simp only[binS] at h<;>first
   |(cases h;done)
   |(
     split at h<;>cases h;rename_i cj;have b8P:s1.length+s2.length<4611686018427387904:=by simpa [Nat.blt_eq] using cj
     refine⟨_,?_,.s _ (λc aa=>(List.mem_append.1 aa).elim (h1 c) (h2 c))⟩;simp only[Go.binOp,Op.stringOp,sX,Sem.run_bind,Sem.run_pure,Result.andThen_ok];rw[if_neg (by simp only[IntKind.max,IntKind.signed,IntKind.bits,if_true];omega),a1Q];rfl)
   |(cases h;refine⟨_,?_,R.b _⟩;simp[Go.binOp,Op.stringOp,aN,a4,cQ,h6];done)
 ·-- a byte of Ou is known Cs it leaves
  rename_i eI d j aw c;split at h<;>try (cases h;done)
  rename_i qx;subst qx;cases ha with
  | @gk _ _ _ _ _ _ n hn hlt=>
  obtain rfl:=hb.kA;have hg:∀eo dJ,eqGuard op t eo dJ (.int eI (Int.ofNat n)) (.int eI (Int.ofNat c))=pure ():=λeo dJ=>by unfold eqGuard;cases op<;>rfl
  simp only[hg];refine(λ⟨u,h1,h2⟩=>⟨u,h1,h2,λ_ _=>trivial⟩:(∃u,(do pure ();Go.binOp op t (.int eI (Int.ofNat n)) (.int eI (Int.ofNat c)):Sem Value).run P w= .ok u w/\R w m O B v u)->_) ?_;unfold umOp at h;cases aa:(Nat.blt 0 c&&(Nat.beq (d%c) 0&&(decide (eI= .u8)||decide (eI= .i64)))) with
  |false=>rw[aa] at h;cases h
  |true=>
   rw[aa,cond_true] at h;simp only[Bool.and_eq_true,Bool.or_eq_true,Nat.blt_eq,Nat.beq_eq,decide_eq_true_eq] at aa;obtain⟨j1,rP,kB⟩:=aa;obtain⟨e,rfl⟩:=Nat.dvd_of_mod_eq_zero rP;have eJ:(Int.ofNat c)≠0:=by intro h;have:c=0:=Int.ofNat.inj h;omega
   split at h<;>cases h
   ·refine⟨.int eI (Int.ofNat (n%c)),?_,?_⟩
    ·have aN:(Int.ofNat n).tmod (Int.ofNat c)=Int.ofNat (n%c):=rfl;simp only[Go.binOp,Op.intDiv,ne_eq,not_true_eq_false,if_false,eJ,aN,Sem.run_bind,Sem.run_pure,Result.andThen_ok]
    ·rw[<-hn,Nat.mod_mul_right_mod];exact .i _ _
   ·refine⟨.int eI (Int.ofNat (n/c)),?_,?_⟩
    ·have aN:(Int.ofNat n).tdiv (Int.ofNat c)=Int.ofNat (n/c):=rfl;have h1:n/c<256:=Nat.lt_of_le_of_lt (Nat.div_le_self _ _) hlt;have a4:eI.wrap (Int.ofNat (n/c))=Int.ofNat (n/c):=O7 kB h1;simp only[Go.binOp,Op.intDiv,ne_eq,not_true_eq_false,if_false,eJ,aN,a4,Sem.run_bind,Sem.run_pure,Result.andThen_ok]
    ·refine .gk ?_ (Nat.lt_of_le_of_lt (Nat.div_le_self _ _) hlt);rw[<-hn,Nat.mul_div_cancel_left _ (by omega),Nat.mod_mul_right_div_self]
 ·exact absurd I (qw _)
 ·rename_i l ex;obtain⟨rfl,h1⟩:=ha.nm;unfold sxEq at h;cases hm:n4 l ex with
  |false=>rw[hm] at h;cases h
  |true=>
   obtain⟨s,rfl,a5⟩:=CM hb hm;have hg:∀eo dJ,eqGuard op t eo dJ (.string (strOf l)) (.string s)=pure ():=λeo dJ=>by unfold eqGuard;cases op<;>rfl
   simp only[hg];refine(λ⟨u,h1,h2⟩=>⟨u,h1,h2,λ_ _=>trivial⟩:(∃u,(do pure ();Go.binOp op t (.string (strOf l)) (.string s):Sem Value).run P w= .ok u w/\R w m O B v u)->_) ?_;have aN:=O5 (Ne.symm a5);rw[hm,cond_true] at h;split at h<;>cases h<;>(refine⟨_,?_,R.b _⟩;simp[Go.binOp,Op.stringOp,aN];done)
 ·rename_i ex l;obtain⟨rfl,h1⟩:=hb.nm;unfold sxEq at h;cases hm:n4 l ex with
  |false=>rw[hm] at h;cases h
  |true=>
   obtain⟨s,rfl,a5⟩:=CM ha hm;have hg:∀eo dJ,eqGuard op t eo dJ (.string s) (.string (strOf l))=pure ():=λeo dJ=>by unfold eqGuard;cases op<;>rfl
   simp only[hg];refine(λ⟨u,h1,h2⟩=>⟨u,h1,h2,λ_ _=>trivial⟩:(∃u,(do pure ();Go.binOp op t (.string s) (.string (strOf l)):Sem Value).run P w= .ok u w/\R w m O B v u)->_) ?_;have aN:=O5 a5;rw[hm,cond_true] at h;split at h<;>cases h<;>(refine⟨_,?_,R.b _⟩;simp[Go.binOp,Op.stringOp,aN];done)
 ·cases h
theorem ok_bin{op:BinOp}{t:TypeId}{x y v:AV}{a b:Value}(ha:R w m O B x a)(hb:R w m O B y b)(h:binop op x y=some v):
  ∃u,(do eqGuard op t (.tmp 0) (.tmp 0) a b;Go.binOp op t a b:Sem Value).run P w= .ok u w/\R w m O B v u/\∀eo dJ,(do eqGuard op t eo dJ a b;Go.binOp op t a b:Sem Value)=(do eqGuard op t (.tmp 0) (.tmp 0) a b;Go.binOp op t a b:Sem Value):=by
 by_cases hi:∃hi,x= .g1 hi
 ·obtain⟨hi,rfl⟩:=hi;cases ha with
  |g1 n hn=>
   refine O8 (x:=.i .i64 n) (.i _ _) hb ?_ (λ_ h=>by cases h);cases y with
   |i l c=>
    cases c with
    |ofNat c=>
     replace h:(if l= .i64/\c=40 then(match op with| .gtr=>some (AV.b hi)| .leq=>some (.b (!hi))|_=>none) else none)=some v:=h;split at h
     ·rename_i aa;obtain⟨rfl,rfl⟩:=aa;split at h<;>cases h
      ·show(if IntKind.i64=IntKind.i64 then some (AV.b (decide (Int.ofNat 40<n))) else none)=_;rw[if_pos I,hn];rfl
      ·show(if IntKind.i64=IntKind.i64 then some (AV.b (decide (n<=Int.ofNat 40))) else none)=_;rw[if_pos I,hn]
       congr 2
       by_cases wV:(40:Int)<n
       ·rw[decide_eq_true wV,decide_eq_false (by show ¬n<=40;omega)];rfl
       ·rw[decide_eq_false wV,decide_eq_true (by show n<=40;omega)];rfl
     ·cases h
    |negSucc c=>cases h
   |_=>cases h
 ·exact O8 ha hb h λh e=>hi ⟨h,e⟩
theorem a1S(d:Nat){t:TypeId}(ht:P.underlying t=some .bool)(a b:Bool):(Op.equalIn (d+1) t (.bool a) (.bool b)).run P w= .ok (a==b) w:=by
 simp[Op.equalIn,run_underlying ht]
theorem a1T{t:TypeId}(ht:P.underlying t=some .bool){x y:AV}{v:Bool}{a b:Value}(ha:R w m O B x a)(hb:R w m O B y b)(h:binopB x y=some v)(eo dJ:Operand):
  (do eqGuard .eql t eo dJ a b;Go.binOp .eql t a b:Sem Value).run P w= .ok (.bool v) w/\(do eqGuard .neq t eo dJ a b;Go.binOp .neq t a b:Sem Value).run P w= .ok (.bool (!v)) w:=by
 unfold binopB at h;split at h<;>cases h;rename_i c d;obtain rfl:=ha.sY;obtain rfl:=hb.sY;have he:(Op.equal t (.bool c) (.bool d)).run P w= .ok (c==d) w:=a1S 9999 ht c d;have h1:Go.binOp .eql t (.bool c) (.bool d)=(do pure (.bool (←Op.equal t (.bool c) (.bool d))):Sem Value):=rfl;have h2:Go.binOp .neq t (.bool c) (.bool d)=(do pure (.bool (!(←Op.equal t (.bool c) (.bool d)))):Sem Value):=rfl;have bN:eqGuard .eql t eo dJ (.bool c) (.bool d)=pure ():=rfl;have bQ:eqGuard .neq t eo dJ (.bool c) (.bool d)=pure ():=rfl;rw[h1,h2,bN,bQ];constructor<;>simp[he]
def O9(P:Program)(t:TypeId)(kind:Nat):Prop:=
 (kind=0/\∃ms,P.underlying t=some (.interface ms))\/(kind=1/\∃e,P.underlying t=some (.pointer e))\/(kind=2/\∃aC rs v,P.underlying t=some (.func aC rs v))∨
 (kind=3/\∃e,P.underlying t=some (.slice e))\/(kind=4/\∃k e,P.underlying t=some (.map k e))
theorem a1U{t:TypeId}{eo dJ:Operand}{v:Bool}{A C:Value}(bN:eqGuard .eql t eo dJ A C=pure ())(bQ:eqGuard .neq t eo dJ A C=pure ())(h1:Go.binOp .eql t A C=(do pure (.bool (←Op.equal t A C)):Sem Value))
  (h2:Go.binOp .neq t A C=(do pure (.bool (!(←Op.equal t A C))):Sem Value)) (he:∀d,(Op.equalIn (d+1) t A C).run P w= .ok v w):
  ((do eqGuard .eql t eo dJ A C;Go.binOp .eql t A C:Sem Value).run P w= .ok (.bool v) w/\(do eqGuard .neq t eo dJ A C;Go.binOp .neq t A C:Sem Value).run P w= .ok (.bool (!v)) w):=by
 have zi:(Op.equal t A C).run P w= .ok v w:=he 9999;rw[h1,h2,bN,bQ];constructor<;>simp[zi]
theorem a1V{t:TypeId}{kind:Nat}(ht:O9 P t kind){x y:AV}{v:Bool}{a b:Value}
  (ha:R w m O B x a) (hb:R w m O B y b) (h:isNilEq kind x y=some v) (eo dJ:Operand):
  (((do eqGuard .eql t eo dJ a b;Go.binOp .eql t a b:Sem Value).run P w= .ok (.bool v) w/\(do eqGuard .neq t eo dJ a b;Go.binOp .neq t a b:Sem Value).run P w= .ok (.bool (!v)) w)):=by
 unfold isNilEq at h;split at h
 case h_13=>cases h
 case h_12=>
  rcases ht with⟨rfl,_⟩|⟨rfl,_⟩|⟨rfl,_⟩|⟨rfl,_⟩|⟨rfl,_⟩<;>cases h
 all_goals
  cases h<;>cases ha<;>cases hb<;>
  (rcases ht with⟨az,ms,hu⟩|⟨az,e,hu⟩|⟨az,aC,rs,b8Q,hu⟩|⟨az,e,hu⟩|⟨az,cL,e,hu⟩<;>first
   |(cases az;done)
   |(refine a1U I I I I (λd=>?_);simp[Op.equalIn,run_underlying hu];done))
end
section
variable {P:Program}{w:World}{m:Nat->Option Nat}{O:Nat->Prop}{B:Nat}
theorem HV{t:TypeId}{i off:Nat}{U:Option Nat}(h:fieldOf P t i=some (off,U)):
  ∃a2 pk,P.underlying t=some (.struct a2)/\a2[i]? =some pk/\pk.offset=off/\shapeOf P pk.type=some U/\shN U≠0:=by
 unfold fieldOf at h;split at h<;>try (cases h;done)
 rename_i a2 hu;split at h<;>try (cases h;done)
 rename_i pk hf;split at h<;>try (cases h;done)
 rename_i gu ao;split at h<;>cases h;rename_i bg;exact⟨a2,pk,hu,hf,rfl,ao,bg⟩
theorem O_{U:Option Nat}{c:List AV}{v:AV}(h:dI U c=some v)(hf:∀x∈c,conf none x=true):v.cells=c.take (shN U)/\shN U<=c.length:=by
 cases U with
 |none=>
  obtain⟨r,rfl⟩:=CI h;have:=hf v (by simp);refine⟨?_,by simp[shN]⟩;cases v<;>first|rfl|(simp[conf] at this)
 |some n=>
  obtain⟨rfl,hn⟩:=CJ h;exact⟨rfl,hn⟩
theorem a1W{U:Option Nat}{c:List AV}{v:AV}(h:dI U c=some v)(hf:∀x∈c,conf none x=true):conf U v=true:=by
 cases U with
 |none=>
  obtain⟨r,rfl⟩:=CI h;exact hf v (by simp)
 |some n=>
  obtain⟨rfl,hn⟩:=CJ h;simp[conf];omega
theorem R.Pa{ol:Bool}{cs:List AV}{u:Value}(h:R w m O B (.df ol (.ag cs)) u){U:Option Nat}{k:Nat}{v:AV}(au:dI U (cs.drop k)=some v):
  ∃aB o,u= .pointer (some ⟨aB,o,none⟩)/\R w m O B (.df ol v) (.pointer (some ⟨aB,o+k,none⟩)):=by
 cases h with
 | @df _ _ _ _ _ aB off a8 cb hb bV aa ak hf=>
  simp only[AV.cells] at aa ak hf;have Pb:∀x∈cs.drop k,conf none x=true:=λx hx=>hf x (List.mem_of_mem_drop hx);obtain⟨lZ,hle⟩:=O_ au Pb;have hlen:v.cells.length=shN U:=by rw[lZ,List.length_take];omega
  have az:k+shN U<=cs.length\/shN U=0:=by simp at hle;omega
  refine⟨aB,off,rfl,.df (λj=>a8 (k+j)) cb hb bV (λj aA=>?_) (λj aA=>?_) (λx hx=>?_)⟩
  ·rw[Nat.add_assoc];exact aa (k+j) (by omega)
  ·have eR:k+j<cs.length:=by omega
   have e:v.cells[j]=cs[k+j]:=by
    have:v.cells[j]? =cs[k+j]? :=by
     rw[lZ,List.getElem?_take_of_lt (by omega),List.getElem?_drop]
    rw[List.getElem?_eq_getElem aA,List.getElem?_eq_getElem eR] at this;exact Option.some.inj this
   rw[e];exact ak (k+j) eR
  ·rw[lZ] at hx;exact Pb x (List.mem_of_mem_take hx)
theorem Pc{t:TypeId}{i off:Nat}{U:Option Nat}(h:fieldOf P t i=some (off,U))(b o:Nat):
  (Instr.fieldAt t (.pointer (some ⟨b,o,none⟩)) i).run P w= .ok (.pointer (some ⟨b,o+off,none⟩)) w:=by
 obtain⟨a2,pk,hu,hf,rfl,ao,bg⟩:=HV h;obtain⟨_,cj,_⟩:=jY ao w;simp[Instr.fieldAt,run_underlying hu,hf,Instr.sureAddr,fieldPlace,cj,bg,jZ]
theorem a1X{t:TypeId}{i off:Nat}{U:Option Nat}(h:fieldOf P t i=some (off,U)){x v:AV}{u:Value}(hx:R w m O B x u)
  (au:fieldAddrA off U x=some v):∃b4,(Instr.fieldAt t u i).run P w= .ok b4 w/\R w m O B v b4:=by
 unfold fieldAddrA at au;split at au<;>try (cases au;done)
 ·rename_i hx;cases au;obtain⟨aB,hm,rfl⟩:=hx.sZ;exact⟨_,Pc h _ _,.p hm⟩
 ·rename_i hx;split at au<;>cases au;rename_i bA ht;obtain⟨aB,o,rfl,ak⟩:=hx.Pa ht;exact⟨_,Pc h _ _,ak⟩
theorem Pd{t:TypeId}{U:Option Nat}(ao:shapeOf P t=some U){cs:List AV}{arr:Array Value}(aa:bz w m O B cs arr.toList)(hf:∀x∈cs,conf none x=true){off:Nat}{v:AV}(au:dI U (cs.drop off)=some v):
  ∃b4,(part t arr off).run P w= .ok b4 w/\R w m O B v b4:=by
 obtain⟨h1,h2,_⟩:=jY ao w;have hd:=aa.drop off;cases U with
 |none=>
  obtain⟨r,ak⟩:=CI au;rw[ak] at hd;obtain⟨u,hu,iC⟩:=hd.get (i:=0) (v:=v) I;rw[List.getElem?_drop] at hu;have qy:arr[off]? =some u:=by simpa using hu
  exact⟨u,by simp[part,h1,qy],iC⟩
 |some n=>
  obtain⟨rfl,hn⟩:=CJ au;have e:(arr.extract off (off+n))=((arr.toList.drop off).take n).toArray:=by
   apply Array.ext';simp
  exact⟨.agg (arr.extract off (off+n)),by simp[part,h1,h2,shN],by rw[e];exact R.uR (hd.take n) (λx hx=>hf x (List.mem_of_mem_drop (List.mem_of_mem_take hx)))⟩
theorem a1Y{t:TypeId}{i off:Nat}{U:Option Nat}(h:fieldOf P t i=some (off,U)){cs:List AV}{v:AV}{u:Value}(hx:R w m O B (.ag cs) u)(au:dI U (cs.drop off)=some v):
  ∃b4,(Instr.field t u i).run P w= .ok b4 w/\R w m O B v b4:=by
 obtain⟨a2,pk,hu,hf,rfl,ao,bg⟩:=HV h;obtain⟨bf,rfl,hl,jl⟩:=hx.n_;obtain⟨b4,h1,h2⟩:=Pd (w:=w) ao hl jl au;exact⟨b4,by simp[Instr.field,run_underlying hu,hf,asAgg,h1],h2⟩
theorem a1Z{t e:TypeId}{n:Nat}{U:Option Nat}(hu:P.underlying t=some (.array n e))(ao:shapeOf P e=some U){x v:AV}{u:Value}(hx:R w m O B x u){k:IntKind}{j:Nat}(aA:j<n)
  (au:fieldAddrA (j*shN U) U x=some v):∃b4,(Instr.indexAt t u (.int k (Int.ofNat j))).run P w= .ok b4 w/\R w m O B v b4:=by
 unfold fieldAddrA at au;obtain⟨_,cj,_⟩:=jY ao w;have key:∀b o,(Instr.indexAt t (.pointer (some ⟨b,o,none⟩)) (.int k (Int.ofNat j))).run P w= .ok (.pointer (some ⟨b,o+j*shN U,none⟩)) w:=λb o=>by
  simp[Instr.indexAt,asIntOf,run_underlying hu,Instr.sureAddr,cj,jZ,aA]
 split at au<;>try (cases au;done)
 ·rename_i hx;cases au;obtain⟨aB,hm,rfl⟩:=hx.sZ;exact⟨_,key _ _,.p hm⟩
 ·rename_i hx;split at au<;>cases au;rename_i bA ht;obtain⟨aB,o,rfl,ak⟩:=hx.Pa ht;exact⟨_,key _ _,ak⟩
theorem a2a{t e:TypeId}{ji:Option Nat}(hu:P.underlying t=some (.slice e))(ao:shapeOf P e=some ji){x v:AV}{u:Value}(hx:R w m O B x u){k:IntKind}{j:Nat}
  (au:idxSlA ji x j=some v):∃b4,(Instr.indexAt t u (.int k (Int.ofNat j))).run P w= .ok b4 w/\R w m O B v b4:=by
 unfold idxSlA at au;obtain⟨_,cj,_⟩:=jY ao w;have key:∀b o len cap,j<len->(Instr.indexAt t (.slice (some ⟨b,o,none⟩) len cap) (.int k (Int.ofNat j))).run P w= .ok (.pointer (some ⟨b,o+j*shN ji,none⟩)) w:=λb o len cap aA=>by
  simp[Instr.indexAt,asIntOf,run_underlying hu,cj,jZ,aA]
 split at au<;>try (cases au;done)
 ·rename_i hx;split at au<;>cases au;rename_i fp;simp only[Bool.and_eq_true,decide_eq_true_eq] at fp;obtain⟨hlt,rfl⟩:=fp;have a2b:=by simpa [Nat.blt_eq] using hlt
  cases hx with
  |al h hl aa hn kV=>exact⟨_,key _ _ _ _ a2b,.p h⟩
 ·rename_i hx;split at au<;>try (cases au;done)
  rename_i he;subst he;split at au<;>cases au;rename_i bA Pe;rw[zb] at Pe;obtain⟨aA,rfl⟩:=List.getElem?_eq_some_iff.1 Pe;cases hx with
  |kb=>simp at aA
  | @a7 _ _ _ _ _ _ aB off fo sp a8 cb pn aa ak hl hf eP=>
   have a5:∀ {l:List AV},j<l.length->l≠[]:=λh e=>by subst e;simp at h
   obtain rfl:=eP (a5 aA);obtain⟨h1,h2,h3⟩:=cb (a5 aA);exact⟨_,key _ _ _ _ aA,.df (a8 j) h1 h2 h3 (λi hi=>aa j aA i hi) (λi hi=>ak j aA i hi) (hf _ (List.getElem_mem aA))⟩
theorem a2c{t:TypeId}(hu:P.underlying t=some .string){l:List Nat}{u:Value}(hx:R w m O B (.s l) u){k:IntKind}{j c:Nat}(aA:nth l j=some c):
  (Instr.index t u (.int k (Int.ofNat j))).run P w= .ok (.int .u8 (Int.ofNat c)) w:=by
 obtain⟨rfl,hl⟩:=hx.nm;rw[zb] at aA;obtain⟨hlt,gA⟩:=List.getElem?_eq_some_iff.1 aA;have aa:c<256:=hl c (by rw[<-gA];exact List.getElem_mem hlt);have ao:(strOf l)[j]? =some c.toUInt8:=by
  have h1:j<(strOf l).size:=by rw[sX];exact hlt
  rw[getElem?_pos (strOf l) j h1]
  congr 1
  show(strOf l).data[j]=_;simp[strOf,gA]
 simp only[Instr.index,asIntOf,Sem.run_bind,Sem.run_pure,Result.andThen_ok,run_underlying hu];have:(0:Int)<=Int.ofNat j:=Int.natCast_nonneg j;simp[ao];omega
theorem a2d{t e:TypeId}{n:Nat}{U:Option Nat}(hu:P.underlying t=some (.array n e))(ao:shapeOf P e=some U){cs:List AV}{v:AV}{u:Value}(hx:R w m O B (.ag cs) u){k:IntKind}{j:Nat}(aA:j<n)
  (au:dI U (cs.drop (j*shN U))=some v):∃b4,(Instr.index t u (.int k (Int.ofNat j))).run P w= .ok b4 w/\R w m O B v b4:=by
 obtain⟨_,cj,_⟩:=jY ao w;obtain⟨bf,rfl,hl,jl⟩:=hx.n_;obtain⟨b4,h1,h2⟩:=Pd (w:=w) ao hl jl au;exact⟨b4,by simp[Instr.index,asIntOf,run_underlying hu,cj,aA,h1],h2⟩
theorem a2e{l:List AV}{u:Value}(hx:R w m O B (.a6 l) u){i:Nat}{v:AV}(au:nth l i=some v):∃b4,(Instr.extract u i).run P w= .ok b4 w/\R w m O B v b4:=by
 obtain⟨bf,rfl,hl⟩:=hx.HP;rw[zb] at au;obtain⟨b4,h1,h2⟩:=hl.get au;have Pf:bf[i]? =some b4:=by simpa using h1
 exact⟨b4,by simp[Instr.extract,Pf],h2⟩
end
section
variable {P:Program}{w:World}{m:Nat->Option Nat}{O:Nat->Prop}{B:Nat}
theorem a2f{k:IntKind}{n y:Nat}{code:BoundsCode}(h:n<=y):(Instr.sliceBound (.int k (Int.ofNat n)) y code).run P w= .ok n w:=by
 have:((Int.ofNat n)<=(y:Int)):=by show((n:Nat):Int)<=y;omega
 simp[Instr.sliceBound,asIntOf,h]
theorem Pg{k:IntKind}{n y:Nat}{code:BoundsCode}(h:n<=y):(Instr.sliceBound (.int k (n:Int)) y code).run P w= .ok n w:=a2f h
inductive ke(d:Nat):Option Value->Nat->Prop
 |none:ke d none d
 |some (k:IntKind) (n:Nat):ke d (some (.int k (Int.ofNat n))) n
theorem a2g{env:Env}(cb:∀b,O b->B<=b)(cZ:Globs env w B){al:aX AV}{a:Act}(ao:hC w m O B al a.tmps.toList){x:Option Operand}{bC:Option aF}(hx:opdO x=some bC){d n:Nat}(au:bndO (evalA env al) bC d=some n):ke d (x.map a.eval) n:=by
 cases x with
 |none=>
  cases hx;simp only[bndO,Option.some.injEq] at au;subst au;exact .none
 |some x=>
  simp only[opdO] at hx;split at hx<;>cases hx;rename_i eo eE;simp only[bndO] at au;split at au<;>try (cases au;done)
  rename_i v he;obtain⟨k,rfl⟩:=zh au;have:=(HS cb cZ ao eE he).kA;simp only[Option.map_some,this];exact .some k n
theorem qz{isSlice:Bool}{len cap:Nat}{cF hi:Option Value}{l h:Nat}(hl:ke 0 cF l)(hh:ke len hi h)(h1:l<=h)(h2:h<=cap):
  (Instr.sliceBounds isSlice len cap cF hi none).run P w= .ok (l,h,cap) w:=by
 cases hl<;>cases hh<;>simp[Instr.sliceBounds,Pg,h1,h2]
theorem Ph{isSlice:Bool}{len cap:Nat}{cF:Option Value}{l h k:Nat}{zj rQ:IntKind}(hl:ke 0 cF l)(h1:l<=h)(h2:h<=k)(h3:k<=cap):
  (Instr.sliceBounds isSlice len cap cF (some (.int zj (Int.ofNat h))) (some (.int rQ (Int.ofNat k)))).run P w= .ok (l,h,k) w:=by
 cases hl<;>simp[Instr.sliceBounds,Pg,h1,h2,h3]
theorem a2h(s:List Nat)(l h:Nat):(strOf s).extract l h=strOf ((s.drop l).take (h-l)):=by
 apply ByteArray.ext;rw[ByteArray.data_extract];apply Array.ext';simp[strOf,List.map_take,List.map_drop]
theorem a2i{t:TypeId}(hu:P.underlying t=some .string){s:List Nat}{u:Value}(hx:R w m O B (.s s) u){cF hi:Option Value}{l h:Nat}(hl:ke 0 cF l)(hh:ke s.length hi h)(h1:l<=h)(h2:h<=s.length):
  ∃b4,(Instr.sliceAt t u cF hi none).run P w= .ok b4 w/\R w m O B (.s ((s.drop l).take (h-l))) b4:=by
 obtain⟨rfl,hb⟩:=hx.nm;refine⟨_,?_,.s _ (λc aa=>hb c (List.mem_of_mem_drop (List.mem_of_mem_take aa)))⟩;simp[Instr.sliceAt,Instr.slice,run_underlying hu,sX,qz hl hh h1 h2,a2h]
theorem a2j{t e:TypeId}{n:Nat}{U:Option Nat}(hu:P.underlying t=some (.array n e))(ao:shapeOf P e=some U){id off aB k:Nat}(hm:m id=some aB)(az:dV w aB=some k)(CN:off+n*shN U<=k)
  {cF hi:Option Value} {l h:Nat} (hl:ke 0 cF l) (hh:ke n hi h) (h1:l<=h) (h2:h<=n):
  ∃b4,(Instr.sliceAt t (.pointer (some ⟨aB,off,none⟩)) cF hi none).run P w= .ok b4 w/\R w m O B (.al id (if n=l then off else off+l*shN U) (h-l) U (some (n-l))) b4:=by
 obtain⟨_,cj,_⟩:=jY ao w;refine⟨.slice (some ⟨aB,if n=l then off else off+l*shN U,none⟩) (h-l) (n-l),?_,.al hm (by omega) (λc aa=>by cases aa;rfl) az ?_⟩
 ·simp only[Instr.sliceAt,run_underlying hu,Sem.run_bind,Result.andThen_ok,Instr.sureAddr,Sem.run_pure,qz hl hh h1 h2,cj];split<;>simp[jZ]
 ·split
  ·rename_i e;subst e;simp;omega
  ·have:(n-l)*shN U+l*shN U=n*shN U:=by rw[<-Nat.add_mul];congr 1;omega
   omega
theorem a2k{t e:TypeId}{ji:Option Nat}(hu:P.underlying t=some (.slice e))(ao:shapeOf P e=some ji){id off len:Nat}{U cap:Option Nat}(gW:U=ji){u:Value}(hx:R w m O B (.al id off len U cap) u)
  {cF hi:Option Value} {l h:Nat} (hl:ke 0 cF l) (hh:ke len hi h) (h1:l<=h):
  (∀(fg:Option Value) (rQ:IntKind) (k:Nat),fg=some (.int rQ (Int.ofNat k))->hi.isSome=true->h<=k->k<=(cap.getD len)→
   ∃b4,(Instr.sliceAt t u cF hi fg).run P w= .ok b4 w/\R w m O B (.al id (if k=l then off else off+l*shN U) (h-l) U (some (k-l))) b4)∧
  (∀c,cap=some c->h<=c->∃b4,(Instr.sliceAt t u cF hi none).run P w= .ok b4 w/\R w m O B (.al id (if c=l then off else off+l*shN U) (h-l) U (some (c-l))) b4)∧
  (cap=none->h<=len->l=0->∃b4,(Instr.sliceAt t u cF hi none).run P w= .ok b4 w/\R w m O B (.al id off h U none) b4)∧
  (cap=none->h<=len->l<len->∃b4,(Instr.sliceAt t u cF hi none).run P w= .ok b4 w/\R w m O B (.al id (off+l*shN U) (h-l) U none) b4)∧
  (cap=none->l=len->h=len->∃b4,(Instr.sliceAt t u cF hi none).run P w= .ok b4 w/\R w m O B (.a7 true U []) b4):=by
 subst gW;obtain⟨_,cj,_⟩:=jY ao w;cases hx with
 | @al _ _ _ _ _ _ aB n fo _ _ hm hlen aa hn kV=>
  have HW:∀k,l<=k->(k-l)*shN U+l*shN U=k*shN U:=λk az=>by rw[<-Nat.add_mul];congr 1;omega
  have a2l:∀k,k<=fo->k*shN U<=fo*shN U:=λk az=>Nat.mul_le_mul_right _ az;refine⟨?_,?_,?_,?_,?_⟩
  ·rintro fg rQ k rfl nn fM mJ;have Pj:k<=fo:=by
    cases cap with
    |none=>simp at mJ;omega
    |some c=>have:=aa c I;simp at mJ;omega
   cases hh with
   |none=>simp at nn
   |some zj h=>
    refine⟨.slice (some ⟨aB,if k=l then off else off+l*shN U,none⟩) (h-l) (k-l),?_,.al hm (by omega) (λc aa=>by cases aa;rfl) hn ?_⟩
    ·simp only[Instr.sliceAt,Instr.slice,run_underlying hu,Sem.run_bind,Result.andThen_ok,Ph hl h1 fM Pj,cj,Sem.run_pure];split<;>simp[jZ]
    ·have:=a2l k Pj;split
     ·rename_i e;subst e;simp;omega
     ·have:=HW k (by omega);omega
  ·rintro c rfl rP;obtain rfl:=aa c I;refine⟨.slice (some ⟨aB,if fo=l then off else off+l*shN U,none⟩) (h-l) (fo-l),?_,.al hm (by omega) (λc aa=>by cases aa;rfl) hn ?_⟩
   ·simp only[Instr.sliceAt,Instr.slice,run_underlying hu,Sem.run_bind,Result.andThen_ok,qz hl hh h1 rP,cj,Sem.run_pure];split<;>simp[jZ]
   ·split
    ·rename_i e;subst e;simp;omega
    ·have:=HW fo (by omega);omega
  ·rintro rfl hle rfl;refine⟨.slice (some ⟨aB,off,none⟩) h fo,?_,.al hm (by omega) (λc aa=>by cases aa) hn kV⟩;simp only[Instr.sliceAt,Instr.slice,run_underlying hu,Sem.run_bind,Result.andThen_ok,qz hl hh h1 (Nat.le_trans hle hlen),cj,Sem.run_pure];split<;>simp[jZ]
  ·rintro rfl hle hlt;refine⟨.slice (some ⟨aB,off+l*shN U,none⟩) (h-l) (fo-l),?_,.al hm (by omega) (λc aa=>by cases aa) hn ?_⟩
   ·simp only[Instr.sliceAt,Instr.slice,run_underlying hu,Sem.run_bind,Result.andThen_ok,qz hl hh h1 (Nat.le_trans hle hlen),cj,Sem.run_pure];rw[if_neg (by omega)];simp[jZ]
   ·have:=HW fo (by omega);omega
  ·rintro rfl ij zk;refine⟨.slice (some ⟨aB,if fo=l then off else off+l*shN U,none⟩) (h-l) (fo-l),?_,?_⟩
   ·simp only[Instr.sliceAt,Instr.slice,run_underlying hu,Sem.run_bind,Result.andThen_ok,qz hl hh h1 (show h<=fo by omega),cj,Sem.run_pure];split<;>simp[jZ]
   ·rw[show h-l=([]:List AV).length from by rw[ij,zk];simp];exact .a7 (λ_ _=>.bool true) (λh=>absurd I h) (λi h=>by simp at h) (λi h=>by simp at h) (λi h=>by simp at h) (Nat.zero_le _) (λv au=>by simp at au) (λh=>absurd I h)
theorem a2m{t e:TypeId}{ji:Option Nat}(hu:P.underlying t=some (.slice e))(ao:shapeOf P e=some ji){cF hi fg:Option Value}(hl:ke 0 cF 0)(hh:ke 0 hi 0)(hm:ke 0 fg 0)(nn:fg.isSome=true->hi.isSome=true):
  (Instr.sliceAt t (.slice none 0 0) cF hi fg).run P w= .ok (.slice none 0 0) w:=by
 obtain⟨_,cj,_⟩:=jY ao w;cases hm with
 |none=>simp[Instr.sliceAt,Instr.slice,run_underlying hu,qz hl hh,cj]
 |some rQ=>
  cases hh with
  |none=>simp at nn
  |some zj=>
   have:=Ph (P:=P) (w:=w) (isSlice:=true) (len:=0) (cap:=0) (zj:=zj) (rQ:=rQ) hl (Nat.le_refl 0) (Nat.le_refl 0) (Nat.le_refl 0);simp only[Instr.sliceAt,Instr.slice,run_underlying hu,Sem.run_bind,Result.andThen_ok,this,cj,Sem.run_pure];simp
theorem a2n{o:Oper}{x:Operand}(ho:o.op= .nilCheck x){cN:Operand->Value}{v:AV}(hx:R w m O B v (cN x))(h:nilOk v=true):(execOp cN o).run P w= .ok (.value (cN x)) w:=by
 generalize hu:cN x=u at hx;cases hx<;>simp[nilOk] at h<;>simp[execOp,ho,hu]
theorem a2o{b:Bool}{u:Value}(hx:R w m O B (.b b) u):(Op.unary .not u).run P w= .ok (.bool (!b)) w:=by
 obtain rfl:=hx.sY;rfl
theorem a2p{k:IntKind}{n:Int}{u:Value}(hx:R w m O B (.i k n) u):(Op.unary .neg u).run P w= .ok (.int k (k.wrap (0-n))) w:=by
 obtain rfl:=hx.kA;rfl
theorem a2q{s d:TypeId}{k gv:IntKind}(ao:P.underlying s=some (.int gv))(hd:P.underlying d=some (.int k)){j:IntKind}{n:Int}{u:Value}(hx:R w m O B (.i j n) u):(convert s d u).run P w= .ok (.int k (wrapN k n)) w:=by
 obtain rfl:=hx.kA;simp[convert,run_underlying ao,run_underlying hd,Conv.intToInt,OX]
theorem a2r{s d:TypeId}{gv zl:IntKind}(ao:P.underlying s=some (.int gv))(hd:P.underlying d=some (.int .i64)){q j:Nat}{u:Value}(hx:R w m O B (.gk zl q j) u):∃n,(convert s d u).run P w= .ok (.int .i64 (Int.ofNat n)) w/\R w m O B (.gk .i64 q j) (.int .i64 (Int.ofNat n)):=by
 cases hx with
 | @gk _ _ _ _ _ _ n hn hlt=>
 exact⟨n,by simp only[convert,Sem.run_bind,run_underlying ao,run_underlying hd,Result.andThen_ok,Conv.intToInt];rw[O7 (.inr I) hlt];rfl,.gk hn hlt⟩
theorem a2s{t:TypeId}{d:TypeDesc}(hu:P.underlying t=some d)(hd:∀ms,d≠ .interface ms)(u:Value):(Instr.makeInterface t u).run P w= .ok (.iface t u) w:=by
 simp only[Instr.makeInterface,Sem.run_bind,run_underlying hu,Result.andThen_ok];cases d<;>first|rfl|exact absurd I (hd _)
theorem a2t{t HX:TypeId}{d:TypeDesc}(hu:P.underlying t=some d)(hd:∀ms,d≠ .interface ms){z:AV}(bg:zeroOf P t=some z){two:Bool}{x:AV}{u:Value}(hx:R w m O B x u){v:AV}
  (au:assertA x t z two=some v):∃b4,(Instr.typeAssert u HX t two).run P w= .ok b4 w/\R w m O B v b4:=by
 unfold assertA at au;obtain⟨dZ,g2,kZ,_⟩:=pj bg w;have k0:=kZ w m O B;have uU:∀ {a:AV} {b:Value} (c:Bool),R w m O B a b->R w m O B (.a6 [a,.b c]) (.tuple #[b,.bool c]):=λc h=>R.rM (bz.cons h (bz.cons (.b c) bz.nil));split at au<;>try (cases au;done)
 ·rename_i CO bA hx;cases hx with
  | @it _ _ _ _ _ b4 ak=>
   split at au
   ·rename_i he;subst he;cases au;cases two with
    |false=>exact⟨b4,by simp only[Instr.typeAssert,Sem.run_bind,run_underlying hu,Result.andThen_ok];cases d<;>first|exact absurd I (hd _)|simp,ak⟩
    |true=>exact⟨.tuple #[b4,.bool true],by simp only[Instr.typeAssert,Sem.run_bind,run_underlying hu,Result.andThen_ok];cases d<;>first|exact absurd I (hd _)|simp,uU true ak⟩
   ·rename_i he;cases two with
    |false=>cases au
    |true=>
     cases au;exact⟨.tuple #[dZ,.bool false],by simp only[Instr.typeAssert,Sem.run_bind,run_underlying hu,Result.andThen_ok];cases d<;>first|exact absurd I (hd _)|simp[he,g2],uU false k0⟩
 ·rename_i hx;cases hx;cases two with
  |false=>cases au
  |true=>
   cases au;exact⟨.tuple #[dZ,.bool false],by simp only[Instr.typeAssert,Sem.run_bind,run_underlying hu,Result.andThen_ok];cases d<;>first|exact absurd I (hd _)|simp[g2],uU false k0⟩
end
def hG{α β:Type}(r:α->β->Prop):List α->List β->Prop
 |[],[]=>True
 |x::xs,y::a8=>r x y/\hG r xs a8
 |_,_=>False
theorem zm{α β Pk:Type}{f:α->Option β}{g:α->Pk}{r:β->Pk->Prop}(h:∀x y,f x=some y->r y (g x)):∀ {l:List α} {a8:List β},mapOL f l=some a8->hG r a8 (l.map g)
 |[],a8,hy=>by simp[mapOL] at hy;subst hy;trivial
 |x::xs,a8,hy=>by
  rw[mapOL] at hy;split at hy
  ·rename_i y eB hx dg;cases hy;exact⟨h x y hx,zm h dg⟩
  ·cases hy
section
variable {P:Program}{w:World}{m:Nat->Option Nat}{O:Nat->Prop}{B:Nat}
theorem bz.store{c bM v:List AV}{off:Nat}{arr:Array Value}{us:List Value}(aa:bz w m O B c arr.toList)(au:bz w m O B v us)(h:storeCells c off v=some bM):bz w m O B bM (wr arr off us).toList:=by
 obtain⟨hle,rfl⟩:=zd h;have rN:arr.size=c.length:=by have:=aa.1;simpa using this
 have hlen:=au.1;have e:(wr arr off us).toList=arr.toList.take off++(us++arr.toList.drop (off+us.length)):=by
  apply List.ext_getElem?;intro i;have:=CH us arr off i (by omega);rw[Array.getElem?_toList,this];rw[List.getElem?_append];simp only[List.length_take,Array.length_toList];by_cases bJ:i<off
  ·rw[if_neg (by omega),if_pos (by omega),List.getElem?_take_of_lt bJ];simp
  ·rw[if_neg (show ¬i<min off arr.size by omega),List.getElem?_append];by_cases cu:i-min off arr.size<us.length
   ·rw[if_pos cu,if_pos (by omega),show min off arr.size=off by omega]
   ·rw[if_neg cu,if_neg (by omega),List.getElem?_drop];rw[Array.getElem?_toList];congr 1;omega
 rw[e,hlen];exact(aa.take off).append (au.append (aa.drop _))
theorem a2u{c bM v:List AV}{off:Nat}(aa:∀x∈c,conf none x=true)(au:∀x∈v,conf none x=true)(h:storeCells c off v=some bM):∀x∈bM,conf none x=true:=by
 obtain⟨_,rfl⟩:=zd h;intro x hx;rcases List.mem_append.1 hx with hx|hx
 ·exact aa x (List.mem_of_mem_take hx)
 ·rcases List.mem_append.1 hx with hx|hx
  ·exact au x hx
  ·exact aa x (List.mem_of_mem_drop hx)
theorem a2v{c bM v:List AV}{off:Nat}(h:storeCells c off v=some bM):bM.length=c.length:=by
 obtain⟨_,rfl⟩:=zd h;simp;omega
theorem Pl:∀(l:List Value) (k off:Nat) (cs:Array Value),(l.zipIdx k).foldl (λ(cs:Array Value) (p:Value×Nat)=>cs.setIfInBounds (off+p.2) p.1) cs=wr cs (off+k) l
 |[],_,_,_=>rfl
 |v::r,k,off,cs=>by
  rw[List.zipIdx_cons,List.foldl_cons,Pl r (k+1) off,wr];rfl
theorem HY{v:AV}{u:Value}(h:R w m O B v u)(au:v.val=true):∀x∈v.cells,conf none x=true:=by
 cases h with
 |ag ao ak hf=>exact hf
 |a6 ao ak=>simp[AV.val] at au
 |_=>intro x hx;simp only[AV.cells,List.mem_singleton] at hx;subst hx;rfl
theorem a2w(aq:aF->Option AV)(bK:Nat->Nat->Nat)(c:List AV):gU aq bK [] c=some c:=rfl
theorem layParts_cons(aq:aF->Option AV)(bK:Nat->Nat->Nat)(p:Nat×Nat×aF)(aC:List (Nat×Nat×aF))(c:List AV):
  gU aq bK (p::aC) c=match aq p.2.2 with
   |none=>none
   |some v=>cond (Nat.beq v.cells.length p.2.1&&v.val) (match storeCells c (bK p.1 p.2.1) v.cells with|none=>none|some c=>gU aq bK aC c) none:=rfl
theorem zn{place:Nat->Option (Nat×Nat)}{aq:aF->Option AV}{bK:Nat->Nat->Nat}:∀(aC:List (Nat×Nat×aF)) (hk:List (Nat×Value)) (c bM:List AV) (arr:Array Value),
  hG (λ(p:Nat×Nat×aF) (q:Nat×Value)=>place q.1=some (bK p.1 p.2.1,p.2.1)/\∀v,aq p.2.2=some v->R w m O B v q.2) aC hk->bz w m O B c arr.toList->(∀x∈c,conf none x=true)->gU aq bK aC c=some bM→
  ∃lv,Instr.fill place arr hk=some lv/\bz w m O B bM lv.toList/\(∀x∈bM,conf none x=true)/\bM.length=c.length
 |[],[],c,bM,arr,_,aa,hf,h=>by
  rw[a2w] at h;cases h;exact⟨arr,rfl,aa,hf,rfl⟩
 |[],_::_,_,_,_,h,_,_,_=>h.elim
 |_::_,[],_,_,_,h,_,_,_=>h.elim
 |p::aC,q::hk,c,bM,arr,⟨⟨ar,au⟩,ak⟩,aa,hf,h=>by
  rw[layParts_cons] at h;cases he:aq p.2.2 with
  |none=>simp[he] at h
  |some v=>
   simp only[he] at h;cases hb:(Nat.beq v.cells.length p.2.1&&v.val) with
   |false=>simp[hb] at h
   |true=>
    rw[hb,cond_true] at h;simp only[Bool.and_eq_true] at hb;have hlen:=Nat.eq_of_beq_eq_true hb.1;have hR:=au v he;cases cA:storeCells c (bK p.1 p.2.1) v.cells with
    |none=>simp[cA] at h
    |some gx=>
     simp only[cA] at h;have cj:q.2.cells.size=p.2.1:=by have:=hR.cells.1;simp at this;omega
     have Pm:=(zd cA).1;have rN:arr.size=c.length:=by have:=aa.1;simpa using this
     obtain⟨lv,h1,h2,h3,aQ⟩:=zn aC hk gx bM (wr arr (bK p.1 p.2.1) q.2.cells.toList) ak (aa.store hR.cells cA) (a2u hf (HY hR hb.2) cA) h;refine⟨lv,?_,h2,h3,by rw[aQ,a2v cA]⟩;obtain⟨i,u⟩:=q;simp only[Instr.fill];rw[show place i=some (bK p.1 p.2.1,p.2.1) from ar];simp only at cj ⊢;have fp:(u.cells.size≠p.2.1||decide (bK p.1 p.2.1+u.cells.size > arr.size))=false:=by
      simp[cj];omega
     have Pn:(u.cells.zipIdx.foldl (λ(cs:Array Value) (x:Value×Nat)=>cs.setIfInBounds (bK p.1 p.2.1+x.2) x.1) arr)=wr arr (bK p.1 p.2.1) u.cells.toList:=by
      rw[<-Array.foldl_toList,Array.toList_zipIdx,Pl];rfl
     have a2x:¬((u.cells.size≠p.2.1||bK p.1 p.2.1+u.cells.size > arr.size)=true):=by rw[Bool.or_eq_true];simp[cj];omega
     rw[if_neg a2x]
     first|(rw[Pn];exact h1)|(simp only[Pn];exact h1)
theorem a2y{a2:Array Field}(h:∀f∈a2.toList,∃i,P.info? f.type=some i)(w:World):
  ∃aC:Array (Nat×Nat),(a2.mapM λf=>(do pure (f.offset,← sizeOf f.type):Sem (Nat×Nat))).run P w= .ok aC w/\∀(i:Nat) (f:Field) (inf:TypeInfo),a2[i]? =some f->P.info? f.type=some inf->aC[i]? =some (f.offset,inf.size):=by
 have key:∀(l:List Field),(∀f∈l,∃i,P.info? f.type=some i)->∃aC:List (Nat×Nat),(l.mapM λf=>(do pure (f.offset,← sizeOf f.type):Sem (Nat×Nat))).run P w= .ok aC w/\∀(i:Nat) (f:Field) (inf:TypeInfo),l[i]? =some f->P.info? f.type=some inf->aC[i]? =some (f.offset,inf.size):=by
  intro l
  induction l with
  |nil=>intro _;exact⟨[],by simp,λi f inf h=>by simp at h⟩
  |cons f l aD=>
   intro h;obtain⟨i,hi⟩:=h f (by simp);obtain⟨aC,h1,h2⟩:=aD (λg hg=>h g (by simp[hg]));have cj:(sizeOf f.type).run P w= .ok i.size w:=by simp[sizeOf,typeInfo,hi]
   refine⟨(f.offset,i.size)::aC,by simp only[List.mapM_cons,Sem.run_bind,cj,Result.andThen_ok,Sem.run_pure,h1],λk g inf hg uV=>?_⟩;cases k with
   |zero=>simp at hg;subst hg;rw[hi] at uV;cases uV;rfl
   |succ k=>simp at hg ⊢;exact h2 k g inf hg uV
 obtain⟨aC,h1,h2⟩:=key a2.toList h;refine⟨aC.toArray,?_,λi f inf hf uV=>by simpa using h2 i f inf (by simpa using hf) uV⟩;rw[Array.mapM_eq_mapM_toList];simp only[Sem.run_map,h1,Result.andThen_ok]
theorem a2z{t:TypeId}{a2:Array Field}(hu:P.underlying t=some (.struct a2))(hi:a2.any (λf=>(P.info? f.type).isNone)=false){z:List AV}(bg:zeroOf P t=some (.ag z)){aq:aF->Option AV}
  {aC:List (Nat×Nat×aF)} {hk:Array (Nat×Value)} {c:List AV}
  (ar:hG (λ(p:Nat×Nat×aF) (q:Nat×Value)=>(∃U,fieldOf P t q.1=some (p.1,U)/\shN U=p.2.1)/\∀v,aq p.2.2=some v->R w m O B v q.2) aC hk.toList)
  (h:gU aq (λoff _=>off) aC z=some c):∃u,(Instr.build t hk).run P w= .ok u w/\R w m O B (.ag c) u:=by
 have hall:∀f∈a2.toList,∃i,P.info? f.type=some i:=by
  intro f hf;rw[<-Array.any_toList,List.any_eq_false] at hi;have:=hi f hf;cases h:P.info? f.type with
  |none=>simp[h] at this
  |some i=>exact⟨i,rfl⟩
 obtain⟨places,hH,a2A⟩:=a2y hall w;obtain⟨dZ,g2,kZ,k0⟩:=pj bg w;obtain⟨eB,rfl,lx,HZ⟩:=(kZ w m O B).n_;have oa:hG (λ(p:Nat×Nat×aF) (q:Nat×Value)=>places[q.1]? =some (p.1,p.2.1)/\∀v,aq p.2.2=some v->R w m O B v q.2) aC hk.toList:=by
  clear h;revert ar;generalize hk.toList=fU
  induction aC generalizing fU with
  |nil=>cases fU<;>exact id
  |cons p aC aD=>
   cases fU with
   |nil=>exact id
   |cons q fU=>
    rintro⟨⟨⟨U,hf,gW⟩,au⟩,ak⟩;refine⟨⟨?_,au⟩,aD fU ak⟩;obtain⟨fT,pk,qy,dE,H0,ao,_⟩:=HV hf;rw[hu] at qy;cases qy;obtain⟨_,_,inf,uV,cj⟩:=jY ao w;rw[a2A q.1 pk inf dE uV,H0,cj,gW]
 obtain⟨lv,h1,h2,h3,_⟩:=zn aC hk.toList z c eB oa lx HZ h;refine⟨.agg lv,?_,by have:=R.uR h2 h3;simpa using this⟩;simp only[Instr.build,Sem.run_bind,g2,Result.andThen_ok,run_underlying hu,Value.cells,hH];simp[h1]
theorem a2B{t e:TypeId}{n:Nat}{U:Option Nat}(hu:P.underlying t=some (.array n e))(ao:shapeOf P e=some U){z:List AV}(bg:zeroOf P t=some (.ag z)){aq:aF->Option AV}
  {aC:List (Nat×Nat×aF)} {hk:Array (Nat×Value)} {c:List AV}
  (ar:hG (λ(p:Nat×Nat×aF) (q:Nat×Value)=>(p.1=q.1*shN U/\p.2.1=shN U)/\∀v,aq p.2.2=some v->R w m O B v q.2) aC hk.toList)
  (h:gU aq (λoff _=>off) aC z=some c):∃u,(Instr.build t hk).run P w= .ok u w/\R w m O B (.ag c) u:=by
 obtain⟨_,cj,_⟩:=jY ao w;obtain⟨dZ,g2,kZ,k0⟩:=pj bg w;obtain⟨eB,rfl,lx,HZ⟩:=(kZ w m O B).n_;have oa:hG (λ(p:Nat×Nat×aF) (q:Nat×Value)=>(λi=>some (i*shN U,shN U)) q.1=some (p.1,p.2.1)/\∀v,aq p.2.2=some v->R w m O B v q.2) aC hk.toList:=by
  clear h;revert ar;generalize hk.toList=fU
  induction aC generalizing fU with
  |nil=>cases fU<;>exact id
  |cons p aC aD=>
   cases fU with
   |nil=>exact id
   |cons q fU=>
    rintro⟨⟨⟨h1,h2⟩,au⟩,ak⟩;exact⟨⟨by rw[h1,h2],au⟩,aD fU ak⟩
 obtain⟨lv,h1,h2,h3,_⟩:=zn (place:=λi=>some (i*shN U,shN U)) (bK:=λoff _=>off) aC hk.toList z c eB oa lx HZ h;refine⟨.agg lv,?_,by have:=R.uR h2 h3;simpa using this⟩;simp only[Instr.build,Sem.run_bind,g2,Result.andThen_ok,run_underlying hu,Value.cells,cj];simp[h1]
theorem Po(z:List AV):f_ 0 z=[]:=rfl
theorem Pp(n:Nat)(z:List AV):f_ (n+1) z=z++f_ n z:=rfl
theorem wW{z:List AV}{eB:List Value}(bg:bz w m O B z eB):∀n,bz w m O B (f_ n z) ((List.range (n*eB.length)).map λi=>eB[i%eB.length]!)
 |0=>by simp[Po];exact bz.nil
 |n+1=>by
  rw[Pp,Nat.add_mul,Nat.one_mul,Nat.add_comm,List.range_add,List.map_append,List.map_map];have aD:=wW bg n;by_cases h0:eB.length=0
  ·have:eB=[]:=List.eq_nil_of_length_eq_zero h0;subst this;have a2C:z=[]:=List.eq_nil_of_length_eq_zero (by have:=bg.1;simpa using this.symm);subst a2C;simpa using aD
  ·refine bz.append ?_ ?_
   ·have:((List.range eB.length).map λi=>eB[i%eB.length]!)=eB:=by
     apply List.ext_getElem
     ·simp
     ·intro i h1 h2;simp only[List.getElem_map,List.getElem_range];rw[Nat.mod_eq_of_lt h2];simp[h2]
    rw[this];exact bg
   ·have:((λi=>eB[i%eB.length]!)∘λx=>eB.length+x)=λi=>eB[i%eB.length]! :=by
     funext i;simp
    rw[this];exact aD
theorem wX{z:List AV}(bg:∀x∈z,conf none x=true):∀n,∀x∈f_ n z,conf none x=true
 |0,x,hx=>by simp[Po] at hx
 |n+1,x,hx=>by
  rw[Pp] at hx;rcases List.mem_append.1 hx with h|h
  ·exact bg x h
  ·exact wX bg n x h
end
section
variable {P:Program}{J:ad}{w:World}{m:Nat->Option Nat}{B:Nat}{f:Nat}
theorem a2D(ak:Rel P J w m B){t e:TypeId}{U:Option Nat}(hu:P.underlying t=some (.slice e))(ao:shapeOf P e=some U){z:AV}(bg:zeroOf P e=some z)(s0:z.cells.length=shN U){n:Nat}(hn:n*shN U<=16777216){aq:aF->Option AV}
  {aC:List (Nat×Nat×aF)} {hk:Array (Nat×Value)} {c:List AV}
  (ar:hG (λ(p:Nat×Nat×aF) (q:Nat×Value)=>(p.1=q.1/\p.2.1=shN U)/\∀v,aq p.2.2=some v->R w m (bj J m) B v q.2) aC hk.toList)
  (h:gU aq (λi bK=>i*bK) aC (f_ n z.cells)=some c):
  ∃b4 av aP,(Instr.buildSlice t n hk).run P w= .ok b4 av/\R av aP (bj (J.push (.cells c)) aP) B (.al J.next 0 n U (some n)) b4/\Rel P (J.push (.cells c)) av aP B/\Ext f J w m (J.push (.cells c)) av aP:=by
 obtain⟨_,cj,_⟩:=jY ao w;obtain⟨dZ,g2,kZ,k0⟩:=pj bg w;have lx:=(kZ w m (bj J m) B).cells;have kC:dZ.cells.size=shN U:=by have:=lx.1;simp at this;omega
 have oa:hG (λ(p:Nat×Nat×aF) (q:Nat×Value)=>(λi=>some (i*shN U,shN U)) q.1=some (p.1*p.2.1,p.2.1)/\∀v,aq p.2.2=some v->R w m (bj J m) B v q.2) aC hk.toList:=by
  clear h;revert ar;generalize hk.toList=fU
  induction aC generalizing fU with
  |nil=>cases fU<;>exact id
  |cons p aC aD=>
   cases fU with
   |nil=>exact id
   |cons q fU=>
    rintro⟨⟨⟨h1,h2⟩,au⟩,ak⟩;exact⟨⟨by rw[h1,h2],au⟩,aD fU ak⟩
 have l0:=wW lx n;have H2:=wX k0 n;have s3:dZ.cells.toList.length=shN U:=by simp[kC]
 rw[s3] at l0;obtain⟨lv,h1,h2,h3,aQ⟩:=zn (place:=λi=>some (i*shN U,shN U)) aC hk.toList (f_ n z.cells) c ((Array.range (n*shN U)).map λi=>dZ.cells.toList[i%shN U]!) oa
  (by simpa [Array.toList_range] using l0) H2 h
 obtain⟨av,aP,hE,ky,mH,rO,zo⟩:=CK ak f (el:=e) h2 h3;have wY:lv.size=n*shN U:=by
  have a3:=h2.1;have bm:=l0.1;simp at a3 bm;omega
 refine⟨.slice (some ⟨w.heap.size,0,none⟩) n n,av,aP,?_,.al ky (Nat.le_refl _) (λc aa=>by cases aa;rfl) (n:=lv.size) (by unfold dV;rw[mH]) (by omega),rO,zo⟩;have H3:¬(n*shN U > 2^24):=by omega
 simp only[Instr.buildSlice,Sem.run_bind,run_underlying hu,Result.andThen_ok,cj];rw[if_neg H3];by_cases h0:n*shN U=0
 ·have aN:((Array.range (n*shN U)).map λi=>dZ.cells.toList[i%shN U]!)= #[]:=by rw[h0];apply Array.ext';simp
  rw[aN] at h1;rw[if_pos h0];simp only[Sem.run_bind,Sem.run_pure,Result.andThen_ok,h0];have cQ:((Array.range 0).map λx=>(#[]:Array Value)[x%(#[]:Array Value).size]!)= #[]:=by apply Array.ext';simp
  rw[cQ,h1];simp[hE]
 ·have aN:((Array.range (n*shN U)).map λi=>dZ.cells.toList[i%shN U]!)=((Array.range (n*shN U)).map λi=>dZ.cells[i%dZ.cells.size]!):=by
   apply Array.ext';simp only[Array.toList_map,Array.toList_range];apply List.map_congr_left;intro a _;rw[kC,Array.getElem!_eq_getD,Array.getD_eq_getD_getElem?];simp
  rw[aN] at h1;simp only[h0,if_false,Sem.run_bind,g2,Result.andThen_ok,Sem.run_pure];simp only[h1];simp[hE]
end
section
variable {P:Program}{w:World}{m:Nat->Option Nat}{O:Nat->Prop}{B:Nat}
theorem Pq{U gu:Option Nat}{v:AV}(h:conf U v=true)(h':conf gu v=true):U=gu:=by
 cases U<;>cases gu<;>cases v<;>simp[conf] at h h'<;>first|rfl|(subst h;simp_all)
theorem a2E(U:Option Nat)(c:List AV):elems U 0 c=some []:=rfl
theorem elems_succ(U:Option Nat)(n:Nat)(c:List AV):elems U (n+1) c=match dI U c with
 |none=>none
 |some v=>match elems U n (c.drop (shN U)) with|none=>none|some bf=>some (v::bf):=rfl
theorem wZ{U:Option Nat}:∀ {n:Nat} {c:List AV} {bf:List AV},(∀x∈c,conf none x=true)->elems U n c=some bf→
  bf.length=n/\bf.flatMap AV.cells=c.take (n*shN U)/\n*shN U<=c.length/\∀v∈bf,conf U v=true
 |0,c,bf,_,h=>by rw[a2E] at h;cases h;simp
 |n+1,c,bf,hf,h=>by
  rw[elems_succ] at h;split at h<;>try (cases h;done)
  rename_i v au;split at h<;>cases h;rename_i qv lY;obtain⟨h1,h2,h3,aQ⟩:=wZ (λx hx=>hf x (List.mem_of_mem_drop hx)) lY;obtain⟨bJ,cu⟩:=O_ au hf;refine⟨by simp[h1],?_,?_,?_⟩
  ·rw[List.flatMap_cons,h2,bJ,Nat.add_mul,Nat.one_mul,Nat.add_comm (n*shN U),List.take_add]
  ·simp at h3;rw[Nat.add_mul];omega
  ·intro bA l1;rcases List.mem_cons.1 l1 with rfl|ej
   ·exact a1W au hf
   ·exact aQ bA ej
theorem a2F{xs:List AV}(h:∀v∈xs,∀x∈v.cells,conf none x=true):∀x∈xs.flatMap AV.cells,conf none x=true:=by
 intro x hx;obtain⟨v,au,hx⟩:=List.mem_flatMap.1 hx;exact h v au x hx
theorem rR{U:Option Nat}{v:AV}(h:conf U v=true):v.cells.length=shN U:=by
 cases U with
 |none=>cases v<;>simp[conf] at h<;>rfl
 |some n=>cases v<;>simp[conf] at h;exact h
theorem Pr{U:Option Nat}{aB:Nat}:∀ {xs:List AV} {off:Nat} (a8:Nat->Nat->Value),(∀i (h:i<xs.length),conf U (xs[i])=true)→
  (∀i (h:i<xs.length),∀j,j<(xs[i]).cells.length->w.cell? ⟨aB,off+i*shN U+j,none⟩=some (a8 i j))→
  (∀i (h:i<xs.length),∀j (aA:j<(xs[i]).cells.length),R w (λ_=>none) O B ((xs[i]).cells[j]) (a8 i j))→
  ∃us,bz w m O B (xs.flatMap AV.cells) us/\us.length=xs.length*shN U/\∀j u,us[j]? =some u->w.cell? ⟨aB,off+j,none⟩=some u
 |[],off,a8,_,_,_=>⟨[],bz.nil,by simp,λj u h=>by simp at h⟩
 |x::xs,off,a8,ao,aa,ak=>by
  have hx:=ao 0 (by simp);have hlen:=rR hx;simp only[List.getElem_cons_zero] at hlen;obtain⟨us,h1,h2,h3⟩:=Pr (off:=off+shN U) (xs:=xs) (λi j=>a8 (i+1) j) (λi h=>ao (i+1) (by simpa using h))
   (λi h j aA=>by have:=aa (i+1) (by simpa using h) j (by simpa using aA);rw[<-this];congr 2;rw[Nat.add_mul];omega)
   (λi h j aA=>ak (i+1) (by simpa using h) j aA)
  refine⟨(List.range x.cells.length).map (a8 0)++us,?_,?_,?_⟩
  ·rw[List.flatMap_cons];refine bz.append ⟨by simp,λi a3 bm=>?_⟩ h1;have:=(ak 0 (by simp) i (by simpa using a3)).up (m:=m);simpa using this
  ·simp[h2,hlen,Nat.add_mul];omega
  ·intro j u hu;rw[List.getElem?_append] at hu;simp only[List.length_map,List.length_range] at hu;split at hu
   ·rename_i aA;have:=aa 0 (by simp) j (by simpa using aA);simp[aA] at hu;subst hu;simpa using this
   ·rename_i aA;have:=h3 _ u hu;rw[<-this];congr 2;omega
end
section
variable {P:Program}{J:ad}{w:World}{m:Nat->Option Nat}{B:Nat}{f:Nat}
theorem zp(ak:Rel P J w m B){x:AV}{u:Value}{xs:List AV}{U:Option Nat}(hx:R w m (bj J m) B x u)(h:readList J x=some xs)(aa:∀a∈xs,conf U a=true):
  ∃base c us,u= .slice base xs.length c/\xs.length<=c/\bz w m (bj J m) B (xs.flatMap AV.cells) us/\us.length=xs.length*shN U/\(∀y∈xs.flatMap AV.cells,conf none y=true)∧
   (match base with|none=>xs=[]/\c=0|some a=>(xs≠[]->a.spot=none)/\(∀j v,us[j]? =some v->w.cell? (a.add j)=some v)/\(xs≠[]->a.block<w.heap.size)):=by
 unfold readList at h;split at h
 ·cases h;cases hx;exact⟨none,0,[],rfl,Nat.le_refl _,bz.nil,by simp,λy hy=>by simp at hy,rfl,rfl⟩
 ·rename_i b8R gu b8S;cases h;cases hx with
  |kb=>exact⟨none,0,[],rfl,Nat.le_refl _,bz.nil,by simp,λy hy=>by simp at hy,rfl,rfl⟩
  | @a7 _ _ _ _ _ _ aB off fo sp a8 cb ao l2 hj hl hf eP=>
   by_cases he:xs=[]
   ·subst he;exact⟨some ⟨aB,off,sp⟩,fo,[],rfl,by simp,bz.nil,by simp,λy hy=>by simp at hy,λh=>absurd I h,λj v h=>by simp at h,λh=>absurd I h⟩
   ·have:gu=U:=by
     have h0:0<xs.length:=List.length_pos_iff.2 he;exact Pq (ao 0 h0) (aa _ (List.getElem_mem h0))
    subst this;obtain⟨us,h1,h2,h3⟩:=Pr a8 ao l2 hj;obtain rfl:=eP he;exact⟨some ⟨aB,off,none⟩,fo,us,rfl,hl,h1,h2,a2F hf,λ_=>rfl,λj v au=>by rw[jZ];exact h3 j v au,λa5=>(cb a5).2.1⟩
 ·rename_i id off len gu cap;split at h<;>try (cases h;done)
  rename_i c hg;cases hx with
  | @al _ _ _ _ _ _ aB n fo _ _ hm hl fV hn kV=>
   obtain⟨arr,el,bn,hh,l2,rN,bg,jA⟩:=ak.cells hm hg;obtain⟨h1,h2,h3,aQ⟩:=wZ (λx hx=>jA x (List.mem_of_mem_drop hx)) h;have a2G:xs≠[]->gu=U:=λhe=>by
    have h0:0<xs.length:=List.length_pos_iff.2 he;exact Pq (aQ _ (List.getElem_mem h0)) (aa _ (List.getElem_mem h0))
   have hmul:len*shN gu=len*shN U:=by
    by_cases he:xs=[]
    ·subst he;simp at h1;subst h1;simp
    ·rw[a2G he]
   refine⟨some ⟨aB,off,none⟩,fo,((arr.toList.take c.length).drop off).take (len*shN U),by rw[h1],by omega,?_,?_,?_,λ_=>rfl,?_,λ_=>wS hh⟩
   ·rw[h2,hmul];exact(l2.drop off).take _
   ·simp at h3 ⊢;rw[h1];omega
   ·rw[h2];exact λy hy=>jA y (List.mem_of_mem_drop (List.mem_of_mem_take hy))
   ·intro j v au;rw[jZ,wT hh];obtain⟨aA,l1⟩:=List.getElem?_eq_some_iff.1 au;simp at aA;rw[<-l1];simp
 ·cases h
theorem a2H(l:List Nat):(l.map λc=>AV.i .u8 (Int.ofNat c)).flatMap AV.cells=l.map λc=>AV.i .u8 (Int.ofNat c):=by
 induction l with
 |nil=>rfl
 |cons a l aD=>rw[List.map_cons,List.flatMap_cons,aD];rfl
theorem a2I(ak:Rel P J w m B){x:AV}{u:Value}{xs:List AV}{U:Option Nat}{mK:TypeId}(az:(∃eg,P.underlying mK=some (.slice eg))\/P.underlying mK=some .string)(hx:R w m (bj J m) B x u)
  (h:newOf J x=some xs) (aa:∀a∈xs,conf U a=true):
  ∃us,bz w m (bj J m) B (xs.flatMap AV.cells) us/\us.length=xs.length*shN U/\(∀y∈xs.flatMap AV.cells,conf none y=true)/\Src P (shN U) mK u xs.length us w:=by
 have one:∀ {us:List Value},bz w m (bj J m) B (xs.flatMap AV.cells) us->(∀y∈xs.flatMap AV.cells,conf none y=true)->∀u∈us,u.oneCell'=true:=λ{us} h1 h2 u hu=>by
  obtain⟨i,hi,rfl⟩:=List.getElem_of_mem hu;have cY:i<(xs.flatMap AV.cells).length:=by rw[<-h1.1];exact hi
  exact(h1.2 i cY hi).OU (h2 _ (List.getElem_mem cY))
 unfold newOf at h;split at h
 ·rename_i l;cases h;obtain⟨rfl,hl⟩:=hx.nm;have w0:(l.map λc=>AV.i .u8 (Int.ofNat c)).flatMap AV.cells=l.map λc=>AV.i .u8 (Int.ofNat c):=a2H l;have cj:l≠[]->shN U=1:=λa5=>by
   cases l with
   |nil=>exact absurd I a5
   |cons a l=>
    have:=aa (.i .u8 (Int.ofNat a)) (by simp);cases U with
    |none=>rfl
    |some n=>simp[conf] at this
  have CP:byteCells (strOf l)=l.map λc=>Value.int .u8 (Int.ofNat c):=by
   unfold byteCells;rw[O0,List.map_map];apply List.map_congr_left;intro c w1;have:c<256:=hl c w1;simp;omega
  have w2:bz w m (bj J m) B ((l.map λc=>AV.i .u8 (Int.ofNat c)).flatMap AV.cells) (byteCells (strOf l)):=by
   rw[w0,CP];exact⟨by simp,λi h1 h2=>by simpa using R.i _ _⟩
  have Ps:∀y∈(l.map λc=>AV.i .u8 (Int.ofNat c)).flatMap AV.cells,conf none y=true:=by
   rw[w0];intro y hy;obtain⟨c,_,rfl⟩:=List.mem_map.1 hy;rfl
  have hlen:(byteCells (strOf l)).length=(l.map λc=>AV.i .u8 (Int.ofNat c)).length*shN U:=by
   rw[CP];by_cases he:l=[]
   ·subst he;simp
   ·rw[cj he];simp
  refine⟨byteCells (strOf l),w2,hlen,Ps,⟨az,λav=>?_,?_,?_,hlen,one w2 Ps⟩⟩
  ·simp[Builtin.lenOf,sX]
  ·have:(l.map λc=>AV.i .u8 (Int.ofNat c)).length=(strOf l).size:=by simp[sX]
   rw[this];have:=firstCells_string (P:=P) (strOf l) w;simpa [Builtin.firstCells] using this
  ·have:(l.map λc=>AV.i .u8 (Int.ofNat c)).length=(strOf l).size:=by simp[sX]
   rw[this];have:=firstCells_string (P:=P) (strOf l) w.drew;simpa [Builtin.firstCells] using this
 ·obtain⟨base,c,us,rfl,hle,h1,h2,h3,aQ⟩:=zp ak hx h aa;refine⟨us,h1,h2,h3,⟨az,λ_=>rfl,?_,?_,h2,one h1 h3⟩⟩
  ·cases base with
   |none=>obtain⟨rfl,_⟩:=aQ;have:us=[]:=List.eq_nil_of_length_eq_zero (by simpa using h2);subst this;exact run_firstCells_none w _ _ _ _
   |some a=>exact run_firstCells_some w _ _ a _ _ us h2 aQ.2.1
  ·cases base with
   |none=>obtain⟨rfl,_⟩:=aQ;have:us=[]:=List.eq_nil_of_length_eq_zero (by simpa using h2);subst this;exact run_firstCells_none w.drew _ _ _ _
   |some a=>exact run_firstCells_some w.drew _ _ a _ _ us h2 (by simpa using aQ.2.1)
theorem H4(ak:Rel P J w m B)(f:Nat){t mK ty e:TypeId}{i:TypeInfo}{z:Value}{U:Option Nat}(ht:P.underlying t=some (.slice e))(hi:P.info? e=some i)(cj:i.size=shN U)(bg:i.zero=some z)(kC:z.cells.size=shN U)
  (uW:i.bytes≠0) {base:Option Addr} {ik ob n:Nat} {qA qB:List AV} {olds news:List Value} {x:Value} (ho:bz w m (bj J m) B qA olds) (oc:olds.length=ik*shN U) (a2J:∀y∈qA,conf none y=true)
  (jA:(Builtin.firstCells (shN U) ik (.slice base ik ob)).run P w.drew= .ok olds.toArray w.drew)
  (hn:bz w m (bj J m) B qB news) (s4:news.length=n*shN U) (a2K:∀y∈qB,conf none y=true) (ao:Src P (shN U) mK x n news w) (hg:ob<ik+n)
  (hb:(3*(ik+n)+2000)*i.bytes<=281474976710656):
  ∃u av aP,(Builtin.append_ #[t,mK] ty #[.slice base ik ob,x]).run P w= .ok u av/\R av aP (bj (J.push (.cells (qA++qB))) aP) B (.al J.next 0 (ik+n) U none) u∧
   Rel P (J.push (.cells (qA++qB))) av aP B/\Ext f J w m (J.push (.cells (qA++qB))) av aP:=by
 have jB:1<=i.bytes:=Nat.one_le_iff_ne_zero.2 uW;have j0:(3*(ik+n)+2000)*1<=(3*(ik+n)+2000)*i.bytes:=Nat.mul_le_mul_left _ jB;have qC:2*((ik+n)*i.bytes)<=(3*(ik+n)+2000)*i.bytes:=by
  rw[<-Nat.mul_assoc];exact Nat.mul_le_mul_right _ (by omega)
 have b2:=run_append_grow_src (P:=P) w t mK ty e i z ht hi bg base ik ob olds (by rw[cj];exact jA) x n news (by rw[cj];exact ao) hg (by omega) (growslice_fits hg (by omega));have k1:=grownCap_ge w (ik+n) ob e;have fH:=ho.1;have po:=hn.1;have a2L:qA.length=ik*shN U:=by omega
 have a2M:qB.length=n*shN U:=by omega
 have s5:((olds++news).toArray++Builtin.zeroCells z.cells (grownCap w (ik+n) ob e-(ik+n))).size=grownCap w (ik+n) ob e*shN U:=by
  simp only[Array.size_append,List.size_toArray,size_zeroCells,kC,List.length_append,oc,s4,← Nat.add_mul]
  congr 1;omega
 obtain⟨h1,h2⟩:=ak.alloc f (w.drew.alloc (.cells ((olds++news).toArray++Builtin.zeroCells z.cells (grownCap w (ik+n) ob e-(ik+n))) e)) (.cells (qA++qB)) _ I I I I I
  (.cells (by rw[s5,List.length_append,a2L,a2M,← Nat.add_mul];exact Nat.mul_le_mul_right _ k1) (λj h h'=>by
   have aA:j<(olds++news).length:=by simp only[List.length_append] at h ⊢;omega
   have:=(ho.append hn).2 j h aA;rw[Array.getElem_append_left (by simpa using aA)];simpa using this) (λj _=>by simp) (λy hy=>(List.mem_append.1 hy).elim (a2J y) (a2K y)))
 refine⟨_,_,_,b2,.al (gz _ _ _) k1 (λc aa=>by cases aa) (n:=grownCap w (ik+n) ob e*shN U) ?_ (by omega),h1,h2⟩;have:(w.drew.alloc (.cells ((olds++news).toArray++Builtin.zeroCells z.cells (grownCap w (ik+n) ob e-(ik+n))) e)).heap[w.heap.size]? =some (.cells ((olds++news).toArray++Builtin.zeroCells z.cells (grownCap w (ik+n) ob e-(ik+n))) e):=by
  exact heap_alloc_new w.drew _
 unfold dV;rw[this];simp only[s5]
end
theorem l3{α:Type}{p:α->Bool}:∀ {l:List α},cr p l=true->∀x∈l,p x=true
 |[],_,x,hx=>by simp at hx
 |y::l,h,x,hx=>by
  have h':cond (p y) (cr p l) false=true:=h;cases hy:p y with
  |false=>rw[hy] at h';cases h'
  |true=>
   rw[hy] at h';rcases List.mem_cons.1 hx with rfl|hx
   ·exact hy
   ·exact l3 h' x hx
theorem a2N{b:Bool}(h:¬b=true):b=false:=by cases b<;>simp at h<;>rfl
section
variable {P:Program}{J:ad}{w:World}{m:Nat->Option Nat}{B:Nat}{f:Nat}
theorem a2O(ak:Rel P J w m B){t mK ty e:TypeId}{i:TypeInfo}{s6:Value}{U:Option Nat}(ht:P.underlying t=some (.slice e))(hi:P.info? e=some i)(cj:i.size=shN U)(bg:i.zero=some s6)(kC:s6.cells.size=shN U)
  (uW:i.bytes≠0) (az:(∃eg,P.underlying mK=some (.slice eg))\/P.underlying mK=some .string) {s x:AV} {us zq:Value} (ao:R w m (bj J m) B s us) (hx:R w m (bj J m) B x zq)
  {v:AV} {af:ad} (h:appendO f J U i.bytes s x=some (v,af)):
  ∃u av aP,(Builtin.append_ #[t,mK] ty #[us,zq]).run P w= .ok u av/\R av aP (bj af aP) B v u/\Rel P af av aP B/\Ext f J w m af av aP:=by
 unfold appendO at h;split at h<;>try (cases h;done)
 rename_i old new hold kv;cases hb:(cr (conf U) old&&cr (conf U) new&&Nat.ble ((3*(old.length+new.length)+2000)*i.bytes) 281474976710656) with
 |false=>rw[hb] at h;cases h
 |true=>
  rw[hb,cond_true] at h;simp only[Bool.and_eq_true] at hb;obtain⟨⟨jB,j0⟩,qC⟩:=hb;have H5:=Nat.le_of_ble_eq_true qC;obtain⟨news,hp,gX,np,w3⟩:=a2I ak az hx kv (l3 j0);obtain⟨base,c,olds,rfl,dP,l4,nq,H6,H7⟩:=zp ak ao hold (l3 jB);have jA:(Builtin.firstCells (shN U) old.length (.slice base old.length c)).run P w.drew= .ok olds.toArray w.drew:=by
   cases base with
   |none=>obtain⟨rfl,_⟩:=H7;have:olds=[]:=List.eq_nil_of_length_eq_zero (by simpa using nq);subst this;exact run_firstCells_none w.drew _ _ _ _
   |some a=>exact run_firstCells_some w.drew _ _ a _ _ olds nq (by simpa using H7.2.1)
  split at h
  ·-- nothing
   cases h;have s4:news=[]:=List.eq_nil_of_length_eq_zero (by simpa using gX);subst s4;exact⟨_,w,m,run_append_nothing (P:=P) w t mK ty e i ht hi base old.length c dP zq (by rw[cj];exact w3),ao,ak,Ext.refl _ _ _ _⟩
  ·rename_i w4 Pt;generalize w5:w4::Pt=new at *;have H8:0<new.length:=by rw[<-w5];simp
   clear w5 w4 Pt;split at h<;>try (cases h;done)
   ·-- a row of rF store
    rename_i id off len gu cap;split at h<;>try (cases h;done)
    rename_i gW;subst gW;have b8T:=ao;generalize kf:Value.slice base old.length c=us at ao;cases ao with
    | @al _ _ _ _ _ _ aB nr fo _ _ hm hl fV hn kV=>
    cases kf;have Pu:∀qp,J.get id=some (.cells qp)->live J id:=λqp hg=>⟨_,hg,rfl⟩
    obtain⟨qp,hg⟩:∃qp,J.get id=some (.cells qp):=by
     simp only[readList] at hold;split at hold
     ·exact⟨_,by assumption⟩
     ·cases hold
    obtain⟨arr,el,bn,hh,l2,rN,H9,a2P⟩:=ak.cells hm hg;have zr:arr.size=nr:=by unfold dV at hn;rw[hh] at hn;simpa using hn
    have uX:old.flatMap AV.cells=(qp.drop off).take (old.length*shN gu)/\old.length*shN gu<=(qp.drop off).length:=by
     simp only[readList,hg] at hold;obtain⟨a3,bm,cv,_⟩:=wZ (λx hx=>a2P x (List.mem_of_mem_drop hx)) hold;exact⟨bm,cv⟩
    have room:old.length+new.length<=c->(Builtin.append_ #[t,mK] ty #[.slice (some ⟨aB,off,none⟩) old.length c,zq]).run P w= .ok (.slice (some ⟨aB,off,none⟩) (old.length+new.length) c) (w.setCells aB (off+old.length*shN gu) news):=λod=>by
     have hmul:=Nat.mul_le_mul_right (shN gu) od;rw[Nat.add_mul] at hmul;have:=run_append_room_src (P:=P) w t mK ty e i ht hi aB off old.length c zq new.length news (by rw[cj];exact w3) od
      (λj aA=>by rw[cj,wT hh,Array.getElem?_eq_getElem (by omega)];rfl)
      (λj aA=>by rw[cj,HQ hh];exact H9 _ (by omega))
     rw[cj] at this;exact this
    split at h
    ·rename_i l5;obtain rfl:=fV l5 I;cases od:Nat.ble (old.length+new.length) c with
     |true=>
      rw[od,cond_true] at h;have H_:=Nat.le_of_ble_eq_true od;split at h<;>try (cases h;done)
      rename_i dE;simp only[hg] at h;split at h<;>cases h;rename_i gx cA;obtain⟨av,h2,h3,aQ⟩:=HR (f:=f) ak (by simpa [Nat.blt_eq] using dE) hm hg cA hp np;have h1:∀u∈news,u.oneCell'=true:=w3.one;have hmul:=Nat.mul_le_mul_right (shN gu) H_;rw[Nat.add_mul] at hmul;have b2:=run_storeCells_cells (P:=P) aB (off+old.length*shN gu) news 0 w
       (λj aA=>by rw[wT hh,Array.getElem?_eq_getElem (by omega)];rfl)
       (λj aA=>by rw[HQ hh];exact H9 _ (by omega)) h1
      have hw:av=w.setCells aB (off+old.length*shN gu) news:=by
       rw[h2] at b2;simpa using b2
      refine⟨_,av,m,by rw[hw];exact room H_,?_,h3,aQ⟩;exact .al (aQ.mono _ _ hm) H_ (λc aa=>by cases aa;rfl) (aQ.bI _ _ hn) kV
     |false=>
      rw[od,cond_false] at h;cases h;have rS:c<old.length+new.length:=by
       rcases Nat.lt_or_ge c (old.length+new.length) with h|h
       ·exact h
       ·rw[Nat.ble_eq_true_of_le h] at od;cases od
      exact H4 ak f ht hi cj bg kC uW l4 nq H6 jA hp gX np w3 rS H5
    ·split at h<;>try (cases h;done)
     rename_i dE;have ns:f<=id:=by simpa [Nat.blt_eq] using dE
     split at h<;>cases h;rename_i H0;obtain rfl:=Nat.eq_of_beq_eq_true H0;by_cases od:old.length+new.length<=c
     ·have hmul:=Nat.mul_le_mul_right (shN gu) od;rw[Nat.add_mul] at hmul;obtain⟨hE,ky,mH,rO⟩:=HL news w aB (0+old.length*shN gu);have uS:=HJ news w aB (0+old.length*shN gu) arr el bn hh;have n9:(old.flatMap AV.cells).length=old.length*shN gu:=by have:=l4.1;omega
      have mL:(new.flatMap AV.cells).length=new.length*shN gu:=by have:=hp.1;omega
      have c0:=ak.move ns hm (Pu _ hg) (w.setCells aB (0+old.length*shN gu) news) (.cells (old.flatMap AV.cells++new.flatMap AV.cells)) I hE (λb hb=>heap_setCells_other news w aB _ b hb) (f:=f)
       (λn hn=>by unfold dV at hn ⊢;rw[hh] at hn;rw[uS];simpa [uO] using hn) ky mH rO ⟨_,uS,?_⟩
      ·obtain⟨h3,aQ⟩:=c0;exact⟨_,_,_,room od,.al (gz _ _ _) od (λc aa=>by cases aa) (aQ.bI _ _ hn) kV,h3,aQ⟩
      ·refine .cells (by rw[uO,List.length_append,n9,mL];omega) (λj h h'=>?_) (by rw[uO];exact H9) (λy hy=>(List.mem_append.1 hy).elim (H6 y) (np y));rw[List.length_append] at h;have uY:=CH news arr (0+old.length*shN gu) j (by omega);rw[Array.getElem?_eq_getElem h'] at uY;by_cases aA:j<(old.flatMap AV.cells).length
       ·rw[List.getElem_append_left aA];rw[if_neg (by omega)] at uY;have mM:=l4.2 j aA (by rw[l4.1];exact aA);have Ia:arr[j]? =some (olds[j]'(by rw[l4.1];exact aA)):=by
         have:=H7.2.1 j _ (List.getElem?_eq_getElem (by rw[l4.1];exact aA));rw[jZ,wT hh] at this;simpa using this
        rw[Ia] at uY;rw[Option.some.inj uY];exact mM
       ·rw[List.getElem_append_right (by omega)];rw[if_pos (by omega)] at uY;have gB:j-(0+old.length*shN gu)=j-(old.flatMap AV.cells).length:=by omega
        rw[gB,List.getElem?_eq_getElem (by omega)] at uY;rw[Option.some.inj uY];exact hp.2 _ (by omega) _
     ·have a2Q:=ak.cR (f:=f) ns hm (Pu _ hg) w .dead I (λ_ _=>rfl) (λ_ h=>h) I I I (λh=>by cases h);obtain⟨kD,gb⟩:=a2Q;have w6:J.next=(J.set id .dead).next:=rfl;have a2R:=H4 (ty:=ty) kD f ht hi cj bg kC uW (l4.ext gb ak) nq H6 jA (hp.ext gb ak) gX np w3 (by omega) H5;obtain⟨u,av,aP,bN,bQ,cc,cI⟩:=a2R;exact⟨u,av,aP,bN,bQ,cc,gb.trans ak cI⟩
   ·cases h;have a2S:old=[]:=by simp only[readList] at hold;cases hold;rfl
    subst a2S;cases ao;have h0:olds=[]:=List.eq_nil_of_length_eq_zero (by simpa using nq);subst h0;have:=H4 (ty:=ty) ak f ht hi cj bg kC uW (qA:=[]) (olds:=[]) (ik:=0) (ob:=0) bz.nil (by simp) (λy hy=>by simp at hy) jA hp gX np w3 (by omega) (by simpa using H5);simpa using this
theorem CQ{b:Nat}{o:Obj}(h:w.heap[b]? =some o)(aa:∀c e z,o≠ .cells c e z):(getObj b).run P w= .ok o w:=by
 simp only[getObj,Sem.run,h]
theorem Pv{b:Nat}{o:Obj}(bH:Obj)(h:w.heap[b]? =some o)(aa:∀c e z,o≠ .cells c e z):(setObj b bH).run P w= .ok () {w with heap:=w.heap.setIfInBounds b bH}:=by
 simp only[setObj,Sem.run,h]
theorem a2T{t ty n e:TypeId}(ht:P.underlying t=some (.array n e))(u:Value):(Builtin.len_ #[t] ty #[u]).run P w= .ok (.int .i64 (Int.ofNat n)) w:=by
 simp[Builtin.len_,run_underlying ht,goInt]
theorem Ib(ak:Rel P J w m B){t ty:TypeId}{k:Nat}(ht:(k=1/\∃e,P.underlying t=some (.slice e))\/(k=0/\P.underlying t=some .string)\/(k=2/\∃a e,P.underlying t=some (.map a e))){x:AV}{n:Nat}{u:Value}(hx:R w m (bj J m) B x u)
  (h:lenA J k x=some n):(Builtin.len_ #[t] ty #[u]).run P w= .ok (.int .i64 (Int.ofNat n)) w:=by
 unfold lenA at h;split at h
 ·cases h;obtain⟨rfl,_⟩:=hx.nm;rcases ht with⟨h,_⟩|⟨_,ht⟩|⟨h,_⟩<;>first|(cases h;done)|skip
  simp[Builtin.len_,run_underlying ht,goInt,sX]
 ·cases h;cases hx;rcases ht with⟨_,e,ht⟩|⟨h,_⟩|⟨h,_⟩<;>first|(cases h;done)|skip
  simp[Builtin.len_,run_underlying ht,goInt]
 ·cases h;cases hx;rcases ht with⟨_,e,ht⟩|⟨h,_⟩|⟨h,_⟩<;>first|(cases h;done)|skip
  simp[Builtin.len_,run_underlying ht,goInt]
 ·cases h;rcases ht with⟨_,e,ht⟩|⟨h,_⟩|⟨h,_⟩<;>first|(cases h;done)|skip
  cases hx<;>simp[Builtin.len_,run_underlying ht,goInt]
 ·cases h;cases hx;rcases ht with⟨h,_⟩|⟨h,_⟩|⟨_,a,e,ht⟩<;>first|(cases h;done)|skip
  simp[Builtin.len_,run_underlying ht,goInt]
 ·split at h<;>cases h;rename_i es an hg;obtain⟨aB,hm,rfl⟩:=hx.CL;obtain⟨bH,h1,h2⟩:=ak.obj _ _ _ hm hg I;rcases ht with⟨h,_⟩|⟨h,_⟩|⟨_,a,e,ht⟩<;>first|(cases h;done)|skip
  cases h2 with
  |map hl _=>simp[Builtin.len_,run_underlying ht,goInt,CQ h1 (λ_ _ _ h=>by cases h),hl]
 ·cases h
theorem Pw{k:Nat}{x:AV}{r:bL}(h:lenU J k x=some r):k=0/\∃ex,x= .gK ex/\r= .iy [(.g1 true,J),(.g1 false,J)]:=by
 unfold lenU at h;split at h<;>cases h;exact⟨rfl,_,rfl,rfl⟩
theorem zs{k:Nat}{x:AV}{r:bL}(h:lenU J k x=some r):r= .iy [(.g1 true,J),(.g1 false,J)]:=by
 obtain⟨_,_,_,h⟩:=Pw h;exact h
theorem a2U{t ty e:TypeId}(ht:P.underlying t=some (.slice e)){x:AV}{n:Nat}{u:Value}{O:Nat->Prop}(hx:R w m O B x u)
  (h:capA x=some n):(Builtin.cap_ #[t] ty #[u]).run P w= .ok (.int .i64 (Int.ofNat n)) w:=by
 unfold capA at h;split at h<;>cases h
 ·cases hx;simp[Builtin.cap_,run_underlying ht,goInt]
 ·cases hx with
  |al h hl aa hn kV=>
   obtain rfl:=aa _ I;simp[Builtin.cap_,run_underlying ht,goInt]
theorem Px{k:IntKind}{a b:Int}{u b4:Value}{O:Nat->Prop}(hx:R w m O B (.i k a) u)(hy:R w m O B (.i k b) b4)(t:TypeId)(j2:Array TypeId):
  (Builtin.min_ j2 t #[u,b4]).run P w= .ok (.int k (if b<a then b else a)) w/\(Builtin.max_ j2 t #[u,b4]).run P w= .ok (.int k (if b > a then b else a)) w:=by
 obtain rfl:=hx.kA;obtain rfl:=hy.kA;constructor
 ·simp[Builtin.min_,Builtin.min2]
 ·simp[Builtin.max_,Builtin.max2]
end
section
variable {P:Program}{w:World}{m:Nat->Option Nat}{O:Nat->Prop}{B:Nat}
def Py(k:Nat)(d:TypeDesc):Prop:=(k=0/\∃j,d= .int j)\/(k=1/\d= .string)\/(k=2/\d= .bool)
theorem Ic{t:TypeId}{k:Nat}(h:leafKind P t=some k):∃d,P.underlying t=some d/\Py k d:=by
 unfold leafKind at h;split at h<;>cases h
 ·exact⟨_,by assumption,.inl ⟨rfl,_,rfl⟩⟩
 ·exact⟨_,by assumption,.inr (.inl ⟨rfl,rfl⟩)⟩
 ·exact⟨_,by assumption,.inr (.inr ⟨rfl,rfl⟩)⟩
theorem a2V{x y:List Nat}(hx:∀c∈x,c<256)(hy:∀c∈y,c<256):(strOf x==strOf y)=eqL x y:=by
 rw[Bool.eq_iff_iff,MapKept.bytes_beq,mI];constructor
 ·intro h;have:=congrArg ByteArray.toList h;rw[wU,wU] at this;exact HT x y hx hy this
 ·rintro rfl;rfl
theorem uZ{t:TypeId}{k:Nat}(az:leafKind P t=some k){x y:AV}{u v:Value}{r:Bool}(hx:R w m O B x u)(hy:R w m O B y v)(h:leafEq k x y=some r):
  (∀d av,(Op.equalIn (d+1) t u v).run P av= .ok r av)/\(∃d,P.underlying t=some d/\Py k d/\Instr.sameNow d u v=some r)/\(r=true->∀n,Instr.sameBits n u v=true)/\(∀e d av,(Instr.checkKey e (d+1) t u).run P av= .ok () av):=by
 obtain⟨d,hd,qD⟩:=Ic az;unfold leafEq at h;split at h
 ·rename_i bB a bp b;split at h<;>cases h;rename_i pq;subst pq;obtain rfl:=hx.kA;obtain rfl:=hy.kA;rcases qD with⟨_,j,rfl⟩|⟨h,_⟩|⟨h,_⟩<;>first|(cases h;done)|skip
  have hF:(a==b)=decide (a=b):=by rw[Bool.eq_iff_iff];simp
  refine⟨λd av=>?_,⟨_,hd,.inl ⟨rfl,j,rfl⟩,?_⟩,λak n=>?_,λe d av=>?_⟩
  ·simp[Op.equalIn,run_underlying hd,hF]
  ·simp[Instr.sameNow,hF]
  ·simp at ak;subst ak;simp[Instr.sameBits]
  ·simp[Instr.checkKey,run_underlying hd]
 ·rename_i a b;cases h;obtain⟨rfl,h1⟩:=hx.nm;obtain⟨rfl,h2⟩:=hy.nm;rcases qD with⟨h,_⟩|⟨_,rfl⟩|⟨h,_⟩<;>first|(cases h;done)|skip
  have hF:=a2V h1 h2;refine⟨λd av=>?_,⟨_,hd,.inr (.inl ⟨rfl,rfl⟩),?_⟩,λak n=>?_,λe d av=>?_⟩
  ·simp[Op.equalIn,run_underlying hd,hF]
  ·simp[Instr.sameNow,hF]
  ·simp[Instr.sameBits,hF,ak]
  ·simp[Instr.checkKey,run_underlying hd]
 ·rename_i a b;cases h;obtain rfl:=hx.sY;obtain rfl:=hy.sY;rcases qD with⟨h,_⟩|⟨h,_⟩|⟨_,rfl⟩<;>first|(cases h;done)|skip
  refine⟨λd av=>?_,⟨_,hd,.inr (.inr ⟨rfl,rfl⟩),?_⟩,λak n=>?_,λe d av=>?_⟩
  ·simp[Op.equalIn,run_underlying hd]
  ·simp[Instr.sameNow]
  ·simp[Instr.sameBits];simpa using ak
  ·simp[Instr.checkKey,run_underlying hd]
 ·rename_i ex b;cases hm:n4 b ex with
  |false=>rw[hm] at h;cases h
  |true=>
   rw[hm] at h;cases h;obtain⟨s,rfl,a5⟩:=CM hx hm;obtain⟨rfl,h2⟩:=hy.nm;rcases qD with⟨h,_⟩|⟨_,rfl⟩|⟨h,_⟩<;>first|(cases h;done)|skip
   have hF:=O6 a5;refine⟨λd av=>?_,⟨_,hd,.inr (.inl ⟨rfl,rfl⟩),?_⟩,λak n=>?_,λe d av=>?_⟩
   ·simp[Op.equalIn,run_underlying hd,hF]
   ·simp[Instr.sameNow,hF]
   ·cases ak
   ·simp[Instr.checkKey,run_underlying hd]
 ·rename_i a ex;cases hm:n4 a ex with
  |false=>rw[hm] at h;cases h
  |true=>
   rw[hm] at h;cases h;obtain⟨s,rfl,a5⟩:=CM hy hm;obtain⟨rfl,h2⟩:=hx.nm;rcases qD with⟨h,_⟩|⟨_,rfl⟩|⟨h,_⟩<;>first|(cases h;done)|skip
   have hF:=O6 (Ne.symm a5);refine⟨λd av=>?_,⟨_,hd,.inr (.inl ⟨rfl,rfl⟩),?_⟩,λak n=>?_,λe d av=>?_⟩
   ·simp[Op.equalIn,run_underlying hd,hF]
   ·simp[Instr.sameNow,hF]
   ·cases ak
   ·simp[Instr.checkKey,run_underlying hd]
 ·cases h
theorem leafEqs_nil(l r:List AV):kR [] l r=match l,r with|[],[]=>some true|_,_=>none:=rfl
theorem leafEqs_cons(k:Nat)(bo:List Nat)(l r:List AV):kR (k::bo) l r=match l,r with
   |x::xs,y::a8=>match leafEq k x y,kR bo xs a8 with|some a,some b=>some (a&&b)|_,_=>none
   |_,_=>none:=rfl
def Ie(P:Program)(i:Nat)(a2:List Field):Prop:=∀j (h:j<a2.length),(a2[j]).name≠ "_" ∧(a2[j]).offset=i+j/\shapeOf P (a2[j]).type=some none
theorem zt{t:TypeId}(ao:shapeOf P t=some none){arr:Array Value}{i:Nat}{u:Value}(hu:arr[i]? =some u)(w:World):(part t arr i).run P w= .ok u w:=by
 obtain⟨h1,_⟩:=jY ao w;simp[part,h1,hu]
theorem forIn_eq{d:Nat}:∀(a2:List Field) (i:Nat) (bo:List Nat) (l r:List AV) (us bf:Array Value) (res:Bool),Ie P i a2->mapOL (λf=>leafKind P f.type) a2=some bo→
  bz w m O B l (us.toList.drop i)->bz w m O B r (bf.toList.drop i)->kR bo l r=some res->∀av,
  (forIn a2 ((none:Option Bool),()) (λ(f:Field) (_:Option Bool×Unit)=>
      if f.name= "_" then(pure (ForInStep.yield (none,())):Sem (ForInStep (Option Bool×Unit)))
      else do
       let a <-part f.type us f.offset
       let b <-part f.type bf f.offset
       let c <-Op.equalIn (d+1) f.type a b
       if c=false then pure (ForInStep.done (some false,())) else pure (ForInStep.yield (none,())))).run P av= .ok (if res then(none,()) else(some false,())) av
 |[],i,bo,l,r,us,bf,res,_,az,hl,ak,h,av=>by
  simp[mapOL] at az;subst az;rw[leafEqs_nil] at h;split at h<;>cases h;simp
 |f::a2,i,bo,l,r,us,bf,res,hf,az,hl,ak,h,av=>by
  rw[mapOL] at az;split at az<;>cases az;rename_i k rT fM mJ;rw[leafEqs_cons] at h;split at h<;>try (cases h;done)
  rename_i x xs y a8;split at h<;>cases h;rename_i a b ha hb;obtain⟨h1,h2,h3⟩:=hf 0 (by simp);simp only[List.getElem_cons_zero,Nat.add_zero] at h1 h2 h3;obtain⟨u,hu,iC⟩:=hl.get (i:=0) (v:=x) I;obtain⟨v,au,Ig⟩:=ak.get (i:=0) (v:=y) I;rw[List.getElem?_drop,Nat.add_zero,Array.getElem?_toList] at hu au;obtain⟨aN,_⟩:=uZ fM iC Ig ha;have p1:=zt h3 hu;have rU:=zt h3 au;have rK:bz w m O B xs (us.toList.drop (i+1)):=by
   have:=hl.drop 1;simpa [List.drop_drop] using this
  have pr:bz w m O B a8 (bf.toList.drop (i+1)):=by
   have:=ak.drop 1;simpa [List.drop_drop] using this
  have aD:=forIn_eq a2 (i+1) rT xs a8 us bf b (λj aA=>by
   have:=hf (j+1) (by simpa using aA);simp only[List.getElem_cons_succ] at this;exact⟨this.1,by rw[this.2.1];omega,this.2.2⟩) mJ rK pr hb av (d:=d)
  rw[List.forIn_cons];simp only[h1,if_false,Sem.run_bind,h2,p1,rU,Result.andThen_ok,aN];cases a with
  |false=>simp
  |true=>simpa using aD
theorem Pz{e:Bool}{d:Nat}:∀(a2:List Field) (i:Nat) (bo:List Nat) (l:List AV) (us:Array Value) (res:Bool),Ie P i a2->mapOL (λf=>leafKind P f.type) a2=some bo→
  bz w m O B l (us.toList.drop i)->kR bo l l=some res->∀av,
  (forIn a2 PUnit.unit (λ(f:Field) (_:PUnit)=>
      if f.name≠ "_" then(do
       let a <-part f.type us f.offset
       Instr.checkKey e (d+1) f.type a
       pure (ForInStep.yield PUnit.unit):Sem (ForInStep PUnit))
      else pure (ForInStep.yield PUnit.unit))).run P av= .ok PUnit.unit av
 |[],i,bo,l,us,res,_,az,hl,h,av=>by simp
 |f::a2,i,bo,l,us,res,hf,az,hl,h,av=>by
  rw[mapOL] at az;split at az<;>cases az;rename_i k rT fM mJ;rw[leafEqs_cons] at h;cases l with
  |nil=>cases h
  |cons x xs=>
  simp only at h;split at h<;>cases h;rename_i a b ha hb;obtain⟨h1,h2,h3⟩:=hf 0 (by simp);simp only[List.getElem_cons_zero,Nat.add_zero] at h1 h2 h3;obtain⟨u,hu,iC⟩:=hl.get (i:=0) (v:=x) I;rw[List.getElem?_drop,Nat.add_zero,Array.getElem?_toList] at hu;obtain⟨_,_,_,aN⟩:=uZ fM iC iC ha;have p1:=zt h3 hu;have rK:bz w m O B xs (us.toList.drop (i+1)):=by
   have:=hl.drop 1;simpa [List.drop_drop] using this
  have aD:=Pz (e:=e) (d:=d) a2 (i+1) rT xs us b (λj aA=>by
   have:=hf (j+1) (by simpa using aA);simp only[List.getElem_cons_succ] at this;exact⟨this.1,by rw[this.2.1];omega,this.2.2⟩) mJ rK hb av
  rw[List.forIn_cons];simp only[h1,ne_eq,not_false_eq_true,if_true,Sem.run_bind,h2,p1,Result.andThen_ok,aN,Sem.run_pure];exact aD
theorem PA:∀ {bo:List Nat} {a2:List Field} {l r:List AV} {us bf:List Value},mapOL (λf=>leafKind P f.type) a2=some bo->bz w m O B l us->bz w m O B r bf->kR bo l r=some true->∀n,
  us.length=bf.length/\(us.zip bf).all (λ(x,y)=>Instr.sameBits n x y)=true
 |[],a2,l,r,us,bf,az,hl,ak,h,n=>by
  rw[leafEqs_nil] at h;split at h<;>cases h;have h1:=hl.1;have h2:=ak.1;simp at h1 h2;subst h1;subst h2;simp
 |k::bo,[],l,r,us,bf,az,hl,ak,h,n=>by simp[mapOL] at az
 |k::bo,f::a2,l,r,us,bf,az,hl,ak,h,n=>by
  rw[mapOL] at az;split at az<;>cases az;rename_i fM mJ;rw[leafEqs_cons] at h;split at h<;>try (cases h;done)
  rename_i x xs y a8;split at h<;>try (cases h;done)
  rename_i a b ha hb;simp only[Option.some.injEq,Bool.and_eq_true] at h;obtain⟨rfl,rfl⟩:=h;obtain⟨u,CR,rfl⟩:∃u CR,us=u::CR:=by cases us with|nil=>have:=hl.1;simp at this|cons u CR=>exact⟨u,CR,rfl⟩
  obtain⟨v,qv,rfl⟩:∃v qv,bf=v::qv:=by cases bf with|nil=>have:=ak.1;simp at this|cons v qv=>exact⟨v,qv,rfl⟩
  have hu:R w m O B x u:=hl.2 0 (by simp) (by simp);have au:R w m O B y v:=ak.2 0 (by simp) (by simp);obtain⟨_,_,jB,_⟩:=uZ fM hu au ha;obtain⟨i1,i2⟩:=PA mJ (by simpa using hl.drop 1) (by simpa using ak.drop 1) hb n;exact⟨by simpa using i1,by simp only[List.zip_cons_cons,List.all_cons,jB I n,i2,Bool.and_self]⟩
theorem CS{t:TypeId}{bo:List Nat}(h:keyOk P t=some (.inr bo)):∃a2,P.underlying t=some (.struct a2)/\P.stoodInHeld t=false/\Ie P 0 a2.toList/\mapOL (λf=>leafKind P f.type) a2.toList=some bo:=by
 unfold keyOk at h;split at h
 ·cases h
 ·split at h<;>try (cases h;done)
  rename_i a2 hu;split at h<;>try (cases h;done)
  rename_i aa;simp only[Bool.and_eq_true,Bool.not_eq_true',List.all_eq_true] at aa;cases hm:mapOL (λf=>leafKind P f.type) a2.toList with
  |none=>simp[hm] at h
  |some rT=>
   simp[hm] at h;subst h;refine⟨a2,hu,aa.1,λj aA=>?_,hm⟩;have:=aa.2 (a2.toList[j],j) (by rw[List.mem_iff_getElem];exact⟨j,by simpa using aA,by simp⟩);simp only[Bool.and_eq_true,decide_eq_true_eq] at this;exact⟨this.1.1,by rw[this.1.2];omega,this.2⟩
theorem CT{t:TypeId}{k:Nat}(h:keyOk P t=some (.inl k)):leafKind P t=some k:=by
 unfold keyOk at h;split at h
 ·cases h;assumption
 ·split at h<;>try (cases h;done)
  split at h
  ·rename_i a2 _ _;cases hm:mapOL (λf=>leafKind P f.type) a2.toList with
   |none=>simp[hm] at h
   |some rT=>simp[hm] at h
  ·cases h
theorem eqStruct_run{t:TypeId}{a2:Array Field}(hu:P.underlying t=some (.struct a2))(ao:P.stoodInHeld t=false)(D:Nat)(us bf:Array Value)(av:World):
  (Op.equalIn (D+1) t (.agg us) (.agg bf)).run P av=((forIn a2.toList ((none:Option Bool),()) (λ(f:Field) (_:Option Bool×Unit)=>
      if f.name= "_" then(pure (ForInStep.yield (none,())):Sem (ForInStep (Option Bool×Unit)))
      else do
       let a <-part f.type us f.offset
       let b <-part f.type bf f.offset
       let c <-Op.equalIn D f.type a b
       if c=false then pure (ForInStep.done (some false,())) else pure (ForInStep.yield (none,())))).run P av).andThen (λa av=>Sem.run P (match a.fst with|some r=>pure r|none=>pure true) av):=by
 simp only[Op.equalIn,Sem.run_bind,run_underlying hu,Result.andThen_ok];simp[ao]
 congr 1
 funext a bR
 obtain⟨a,_⟩:=a;cases a<;>rfl
theorem a2W{t:TypeId}{a2:Array Field}(hu:P.underlying t=some (.struct a2))(e:Bool)(D:Nat)(us:Array Value)(av:World):
  (Instr.checkKey e (D+1) t (.agg us)).run P av=((forIn a2.toList PUnit.unit (λ(f:Field) (_:PUnit)=>
      if f.name≠ "_" then(do
       let a <-part f.type us f.offset
       Instr.checkKey e D f.type a
       pure (ForInStep.yield PUnit.unit):Sem (ForInStep PUnit))
      else pure (ForInStep.yield PUnit.unit))).run P av).andThen λ_ av=>Sem.run P (pure ()) av:=by
 simp only[Instr.checkKey,Sem.run_bind,run_underlying hu,Result.andThen_ok];rw[<-Array.forIn_toList]
theorem CU{t:TypeId}{U:jh}(az:keyOk P t=some U){x y:AV}{u v:Value}{r:Bool}(hx:R w m O B x u)(hy:R w m O B y v)(h:keyEq U x y=some r):
  (∀av,(Op.equal t u v).run P av= .ok r av)/\(r=true->Instr.sameBits 10000 u v=true):=by
 cases U with
 |inl k=>
  obtain⟨h1,_,h2,_⟩:=uZ (CT az) hx hy h;exact⟨λav=>h1 9999 av,λak=>h2 ak _⟩
 |inr bo=>
  obtain⟨a2,hu,ao,hf,hm⟩:=CS az;simp only[keyEq] at h;split at h<;>try (cases h;done)
  obtain⟨us,rfl,hl,_⟩:=hx.n_;obtain⟨bf,rfl,ak,_⟩:=hy.n_;refine⟨λav=>?_,λa2X=>?_⟩
  ·have key:∀d,(Op.equalIn (d+2) t (.agg us) (.agg bf)).run P av= .ok r av:=λd=>by
    have:=forIn_eq (av:=av) (d:=d) a2.toList 0 bo _ _ us bf r hf hm (by simpa using hl) (by simpa using ak) h;rw[eqStruct_run hu ao (d+1),this];cases r<;>simp
   exact key 9998
  ·subst a2X;obtain⟨h1,h2⟩:=PA (P:=P) hm hl ak h 9999;have key:∀n,Instr.sameBits (n+1) (.agg us) (.agg bf)=(us.size==bf.size&&(us.toList.zip bf.toList).all λ(x,y)=>Instr.sameBits n x y):=λn=>rfl;rw[show(10000:Nat)=9999+1 from rfl,key,h2];simpa using h1
theorem PB{t:TypeId}{U:jh}(az:keyOk P t=some U){x:AV}{u:Value}{r:Bool}(hx:R w m O B x u)(h:keyEq U x x=some r)(e:Bool)(av:World):(Instr.checkKey e 10000 t u).run P av= .ok () av:=by
 cases U with
 |inl k=>
  obtain⟨_,_,_,h1⟩:=uZ (CT az) hx hx h;exact h1 e 9999 av
 |inr bo=>
  obtain⟨a2,hu,ao,hf,hm⟩:=CS az;simp only[keyEq] at h;cases x<;>simp only[reduceCtorEq] at h;obtain⟨us,rfl,hl,_⟩:=hx.n_;have key:∀d,(Instr.checkKey e (d+2) t (.agg us)).run P av= .ok () av:=λd=>by
   have:=Pz (av:=av) (e:=e) (d:=d) a2.toList 0 bo _ us r hf hm (by simpa using hl) h;rw[a2W hu e (d+1),this];rfl
  exact key 9998
theorem PC{t:TypeId}{U:jh}(az:keyOk P t=some U){x:AV}{u:Value}(hx:R w m O B x u)(h:keySelf U x=true)(e:Bool)(av:World):(Instr.checkKey e 10000 t u).run P av= .ok () av:=by
 unfold keySelf at h;split at h
 ·rename_i ex;obtain⟨d,hd,qD⟩:=Ic (CT az);rcases qD with⟨h,_⟩|⟨_,rfl⟩|⟨h,_⟩<;>first|(cases h;done)|skip
  cases hx with
  | @gK _ _ _ _ s _=>
   have key:∀d,(Instr.checkKey e (d+1) t (.string s)).run P av= .ok () av:=λd=>by simp[Instr.checkKey,run_underlying hd]
   exact key 9999
 ·split at h
  ·rename_i ak;exact PB az hx ak e av
  ·cases h
end
theorem PD{α β:Type}{r:α->β->Prop}:∀ {l:List α} {cf:List β},cf.length=l.length->(∀i (h:i<l.length) (h':i<cf.length),r (l[i]) (cf[i]))->hG r l cf
 |[],[],_,_=>trivial
 |[],_::_,h,_=>by simp at h
 |_::_,[],h,_=>by simp at h
 |x::xs,y::a8,h,ak=>⟨ak 0 (by simp) (by simp),PD (by simpa using h) (λi a b=>ak (i+1) (by simpa using a) (by simpa using b))⟩
theorem u0{α β:Type}{r:α->β->Prop}:∀ {l:List α} {cf:List β},hG r l cf->cf.length=l.length
 |[],[],_=>rfl
 |[],_::_,h=>h.elim
 |_::_,[],h=>h.elim
 |_::_,_::_,h=>by simp[u0 h.2]
theorem u1{α β:Type}{r:α->β->Prop}:∀ {l:List α} {cf:List β},hG r l cf->∀i (h:i<l.length) (h':i<cf.length),r (l[i]) (cf[i])
 |[],[],_,i,h,_=>by simp at h
 |[],_::_,h,_,_,_=>h.elim
 |_::_,[],h,_,_,_=>h.elim
 |_::_,_::_,h,i,h1,h2=>by
  cases i with
  |zero=>exact h.1
  |succ i=>exact u1 h.2 i (by simpa using h1) (by simpa using h2)
abbrev jm:=AV×AV×Nat
def oe(U:jh)(k:AV):List jm->Option Nat->Prop
 |[],none=>True
 |[],some _=>False
 |e::_,some 0=>keyEq U k e.1=some true
 |e::es,some (i+1)=>keyEq U k e.1=some false/\oe U k es (some i)
 |e::es,none=>keyEq U k e.1=some false/\oe U k es none
theorem a2Y(U:jh)(k:AV):y6 U k []=some none:=rfl
theorem findE_cons(U:jh)(k:AV)(e:jm)(es:List jm):y6 U k (e::es)=match keyEq U k e.1 with|none=>none|some true=>some (some e.2.1)|some false=>y6 U k es:=rfl
theorem a2Z(U:jh)(k v:AV):n5 U k v []=some none:=rfl
theorem updE_cons(U:jh)(k v:AV)(e:jm)(es:List jm):n5 U k v (e::es)=match keyEq U k e.1 with
  |none=>none
  |some true=>some (some ((k,v,e.2.2)::es))
  |some false=>match n5 U k v es with|none=>none|some none=>some none|some (some es)=>some (some (e::es)):=rfl
theorem Ih{U:jh}{k:AV}:∀ {es:List jm} {r:Option AV},y6 U k es=some r->(r=none/\oe U k es none)\/∃i e,oe U k es (some i)/\es[i]? =some e/\r=some e.2.1
 |[],r,h=>by rw[a2Y] at h;cases h;exact .inl ⟨rfl,trivial⟩
 |e::es,r,h=>by
  rw[findE_cons] at h;split at h
  ·cases h
  ·rename_i az;cases h;exact .inr ⟨0,e,az,rfl,rfl⟩
  ·rename_i az;rcases Ih h with⟨h1,h2⟩|⟨i,eg,h1,h2,h3⟩
   ·exact .inl ⟨h1,az,h2⟩
   ·exact .inr ⟨i+1,eg,⟨az,h1⟩,by simpa using h2,h3⟩
theorem Ii{U:jh}{k v:AV}:∀ {es:List jm} {r:Option (List jm)},n5 U k v es=some r->(r=none/\oe U k es none)\/∃i e,oe U k es (some i)/\es[i]? =some e/\r=some (es.set i (k,v,e.2.2))
 |[],r,h=>by rw[a2Z] at h;cases h;exact .inl ⟨rfl,trivial⟩
 |e::es,r,h=>by
  rw[updE_cons] at h;split at h
  ·cases h
  ·rename_i az;cases h;exact .inr ⟨0,e,az,rfl,rfl⟩
  ·rename_i az;split at h<;>cases h
   ·rename_i hu;rcases Ii hu with⟨h1,h2⟩|⟨i,eg,h1,h2,h3⟩
    ·exact .inl ⟨rfl,az,h2⟩
    ·cases h3
   ·rename_i og hu;rcases Ii hu with⟨h1,h2⟩|⟨i,eg,h1,h2,h3⟩
    ·cases h1
    ·cases h3;exact .inr ⟨i+1,eg,⟨az,h1⟩,by simpa using h2,rfl⟩
theorem PE{k:Nat}{x y:AV}(h:leafEq k x y=some true):leafEq k y x=some true:=by
 unfold leafEq at h;split at h
 ·split at h<;>simp at h;rename_i e;subst e;subst h;simp[leafEq]
 ·simp only[Option.some.injEq,mI] at h;subst h;simp[leafEq,(mI _ _).2 I]
 ·simp at h;subst h;simp[leafEq]
 ·rename_i ex b;cases hm:n4 b ex<;>rw[hm] at h<;>cases h
 ·rename_i a ex;cases hm:n4 a ex<;>rw[hm] at h<;>cases h
 ·cases h
theorem PG:∀ {bo:List Nat} {x y:List AV},kR bo x y=some true->kR bo y x=some true
 |[],x,y,h=>by
  rw[leafEqs_nil] at h ⊢;split at h<;>cases h;rfl
 |k::bo,x,y,h=>by
  rw[leafEqs_cons] at h ⊢;split at h<;>try (cases h;done)
  split at h<;>try (cases h;done)
  rename_i ha hb;simp only[Option.some.injEq,Bool.and_eq_true] at h;obtain⟨rfl,rfl⟩:=h;simp only[PE ha,PG hb,Bool.and_self]
theorem a3a{U:jh}{x y:AV}(h:keyEq U x y=some true):keyEq U y x=some true:=by
 cases U with
 |inl k=>exact PE h
 |inr bo=>
  simp only[keyEq] at h ⊢;split at h<;>try (cases h;done)
  exact PG h
section
variable {P:Program}{w:World}{m:Nat->Option Nat}{O:Nat->Prop}{B:Nat}
def rV(w:World)(m:Nat->Option Nat)(O:Nat->Prop)(B:Nat)(e:jm)(eg:MapEntry):Prop:=R w m O B e.1 eg.key/\R w m O B e.2.1 eg.val/\eg.born=e.2.2
def got(q:Option Nat)(n:Nat)(dv:List MapEntry):Option (Nat×Value):=match q with|none=>none|some i=>match dv[i]? with|some e=>some (i+n,e.val)|none=>none
theorem Ij{t:TypeId}{U:jh}(az:keyOk P t=some U){k:AV}{u:Value}(hu:R w m O B k u):∀ {es:List jm} {dv:List MapEntry} {q:Option Nat} (n:Nat),hG (rV w m O B) es dv->oe U k es q->∀av,
  (Instr.findAsking t u dv n).run P av= .ok (got q n dv) av
 |[],[],q,n,_,h,av=>by
  cases q with
  |none=>simp[Instr.findAsking,got]
  |some i=>exact h.elim
 |[],_::_,_,_,h,_,_=>h.elim
 |_::_,[],_,_,h,_,_=>h.elim
 |e::es,eg::dv,q,n,ak,h,av=>by
  cases q with
  |none=>
   obtain⟨h1,h2⟩:=h;have:=(CU az hu ak.1.1 h1).1 av;have aD:=Ij az hu (n+1) ak.2 h2 av;simp[Instr.findAsking,this,aD,got]
  |some i=>
   cases i with
   |zero=>
    have:=(CU az hu ak.1.1 h).1 av;simp[Instr.findAsking,this,got]
   |succ i=>
    obtain⟨h1,h2⟩:=h;have:=(CU az hu ak.1.1 h1).1 av;have aD:=Ij az hu (n+1) ak.2 h2 av;simp only[Instr.findAsking,Sem.run_bind,this,Result.andThen_ok,Bool.false_eq_true,if_false,aD,got,List.getElem?_cons_succ];cases dv[i]? <;>simp;omega
theorem Ik{t:TypeId}{eI:Nat}{d:TypeDesc}(hd:P.underlying t=some d)(az:leafKind P t=some eI){k:AV}{u:Value}(hu:R w m O B k u):∀ {es:List jm} {dv:List MapEntry} {q:Option Nat} (n:Nat),hG (rV w m O B) es dv->oe (.inl eI) k es q→
  Instr.findNow d u dv n=some (got q n dv)
 |[],[],q,n,_,h=>by
  cases q with
  |none=>simp[Instr.findNow,got]
  |some i=>exact h.elim
 |[],_::_,_,_,h,_=>h.elim
 |_::_,[],_,_,h,_=>h.elim
 |e::es,eg::dv,q,n,ak,h=>by
  have same:∀ {r},keyEq (.inl eI) k e.1=some r->Instr.sameNow d u eg.key=some r:=λ{r} hh=>by
   obtain⟨_,⟨hY,h1,_,h2⟩,_⟩:=uZ az hu ak.1.1 hh;rw[hd] at h1;cases h1;exact h2
  cases q with
  |none=>
   obtain⟨h1,h2⟩:=h;have:=same h1;have aD:=Ik hd az hu (n+1) ak.2 h2;simp[Instr.findNow,this,aD,got]
  |some i=>
   cases i with
   |zero=>
    have:=same h;simp[Instr.findNow,this,got]
   |succ i=>
    obtain⟨h1,h2⟩:=h;have:=same h1;have aD:=Ik hd az hu (n+1) ak.2 h2;simp only[Instr.findNow,this,aD,got,List.getElem?_cons_succ];cases dv[i]? <;>simp;omega
theorem a3b{a2:Array Field}{u:Value}(e:MapEntry)(es:List MapEntry)(n:Nat):Instr.findNow (.struct a2) u (e::es) n=none:=by
 simp[Instr.findNow,Instr.sameNow]
theorem zu{t:TypeId}{U:jh}(az:keyOk P t=some U){k:AV}{u:Value}(hu:R w m O B k u){es:List jm}{dv:List MapEntry}{q:Option Nat}(ak:hG (rV w m O B) es dv)(h:oe U k es q)(av:World):
  (Instr.findKey t u dv).run P av= .ok (got q 0 dv) av:=by
 cases U with
 |inl eI=>
  have hl:=CT az;obtain⟨d,hd,_⟩:=Ic hl;have:=Ik hd hl hu 0 ak h;simp[Instr.findKey,run_underlying hd,this]
 |inr bo=>
  obtain⟨a2,hd,_⟩:=CS az;simp only[Instr.findKey,Sem.run_bind,run_underlying hd,Result.andThen_ok];cases dv with
  |nil=>
   have a3c:es=[]:=List.eq_nil_of_length_eq_zero (by have:=u0 ak;simpa using this.symm);subst a3c;cases q with
   |none=>simp[Instr.findNow,got]
   |some i=>exact h.elim
  |cons eg dv=>
   rw[a3b];exact Ij az hu 0 ak h av
theorem oe.lt{U:jh}{k:AV}:∀ {es:List jm} {i:Nat},oe U k es (some i)->∃e,es[i]? =some e/\keyEq U k e.1=some true
 |[],i,h=>h.elim
 |e::es,0,h=>⟨e,rfl,h⟩
 |e::es,i+1,h=>by
  obtain⟨eg,h1,h2⟩:=oe.lt h.2;exact⟨eg,by simpa using h1,h2⟩
end
section
variable {P:Program}{J:ad}{w:World}{m:Nat->Option Nat}{B:Nat}{f:Nat}
theorem Rel.zv(ak:Rel P J w m B){id aB:Nat}{es:List jm}{an:Nat}(hm:m id=some aB)(hg:J.get id=some (.map es an)):
  ∃dv:Array MapEntry,w.heap[aB]? =some (.map dv an)/\hG (rV w m (bj J m) B) es dv.toList:=by
 obtain⟨bH,h1,h2⟩:=ak.obj id aB _ hm hg I;cases h2 with
 | @map _ dv _ hl hj=>
  refine⟨dv,h1,PD (by simpa using hl) (λi a b=>?_)⟩;have:=hj i a (by simpa using b);exact⟨by simpa using this.1,by simpa using this.2.1,by simpa using this.2.2⟩
theorem uU{O:Nat->Prop}{a:AV}{u:Value}(two c:Bool)(h:R w m O B a u):R w m O B (v2 two a c) (if two then .tuple #[u,.bool c] else u):=by
 cases two with
 |false=>exact h
 |true=>exact R.rM (bz.cons h (bz.cons (.b c) bz.nil))
theorem a3d(ak:Rel P J w m B){t hB e:TypeId}(ht:P.underlying t=some (.map hB e)){U:jh}(az:keyOk P hB=some U){z:AV}(bg:zeroOf P e=some z)(two:Bool){x k v:AV}{u oh:Value}
  (hx:R w m (bj J m) B x u) (oi:R w m (bj J m) B k oh)
  (h:lookupA J U x k z two=some v):∃b4,(Instr.lookup t u oh two).run P w= .ok b4 w/\R w m (bj J m) B v b4:=by
 obtain⟨dZ,g2,kZ,_⟩:=pj bg w;have k0:=kZ w m (bj J m) B;unfold lookupA at h;cases pq:keySelf U k with
 |false=>simp[pq] at h
 |true=>
  simp only[pq,cond_true] at h;split at h
  ·cases h;cases hx;have aa:=PC az oi pq true w;have hf:=zu (P:=P) (es:=[]) (dv:=[]) (q:=none) (w:=w) (m:=m) (O:=bj J m) (B:=B) az oi trivial trivial w;refine⟨_,?_,uU two false k0⟩;simp[Instr.lookup,run_underlying ht,aa,hf,got,g2]
  ·rename_i id;obtain⟨aB,hm,rfl⟩:=hx.CL;split at h<;>try (cases h;done)
   rename_i es an hg;obtain⟨dv,hh,hall⟩:=ak.zv hm hg;have il:=CQ (P:=P) (w:=w) hh (λ_ _ _ h=>by cases h);have aa:=PC az oi pq dv.isEmpty w;split at h<;>cases h
   ·rename_i bA zw;rcases Ih zw with⟨h1,_⟩|⟨i,s7,h1,h2,h3⟩
    ·cases h1
    ·cases h3;obtain⟨hi,cY⟩:=List.getElem?_eq_some_iff.1 h2;have hlen:=u0 hall;have iD:i<dv.toList.length:=by omega
     have jn:=u1 hall i hi iD;rw[cY] at jn;have hf:=zu (P:=P) az oi hall h1 w;have w7:got (some i) 0 dv.toList=some (i,dv.toList[i].val):=by simp[got,List.getElem?_eq_getElem iD]
     rw[w7] at hf;refine⟨_,?_,uU two true jn.2.1⟩;simp only[Instr.lookup,Sem.run_bind,run_underlying ht,Result.andThen_ok,il,Sem.run_pure,aa,hf]
   ·rename_i zw;rcases Ih zw with⟨_,h1⟩|⟨i,s7,h1,h2,h3⟩
    ·have hf:=zu (P:=P) az oi hall h1 w;rw[show got none 0 dv.toList=none from rfl] at hf;refine⟨_,?_,uU two false k0⟩;simp only[Instr.lookup,Sem.run_bind,run_underlying ht,Result.andThen_ok,il,Sem.run_pure,aa,hf,g2]
    ·cases h3
  ·cases h
theorem PH(ak:Rel P J w m B){t hB e:TypeId}(ht:P.underlying t=some (.map hB e)){U:jh}(az:keyOk P hB=some U){id aB:Nat}{es:List jm}{an:Nat}(dE:f<=id)(hm:m id=some aB)(hg:J.get id=some (.map es an)){k v:AV}{oh w8:Value}
  (oi:R w m (bj J m) B k oh) (PI:R w m (bj J m) B v w8) {oj:Bool} (pq:keyEq U k k=some oj) {r:Option (List jm)} (hu:n5 U k v es=some r):
  ∃av,(Instr.mapUpdate t (.map (some aB)) oh w8).run P w= .ok () av∧
   Rel P (J.set id (match r with|some es=>.map es an|none=>.map (es++[(k,v,an)]) (an+1))) av m B/\Ext f J w m (J.set id (match r with|some es=>.map es an|none=>.map (es++[(k,v,an)]) (an+1))) av m:=by
 obtain⟨dv,hh,hall⟩:=ak.zv hm hg;have hlen:=u0 hall;simp only[Array.length_toList] at hlen;have il:=CQ (P:=P) (w:=w) hh (λ_ _ _ h=>by cases h);have aa:=PB az oi pq false w;have hb:=wS hh;have cR:∀(o:AO) (bH:Obj),kW P w m (bj J m) B o bH->dV w aB=none->o.isDead=false→
   Rel P (J.set id o) {w with heap:=w.heap.setIfInBounds aB bH} m B/\Ext f J w m (J.set id o) {w with heap:=w.heap.setIfInBounds aB bH} m:=λo bH ho gl hd=>
  ak.cR dE hm ⟨_,hg,rfl⟩ {w with heap:=w.heap.setIfInBounds aB bH} o (by simp) (λb a5=>by simp[Array.getElem?_setIfInBounds_ne (Ne.symm a5)]) (λn hn=>by rw[gl] at hn;cases hn) rfl rfl rfl (λ_=>⟨bH,by simp[hb],ho⟩)
 have gl:dV w aB=none:=by unfold dV;rw[hh]
 rcases Ii hu with⟨rfl,fz⟩|⟨i,s7,fz,hi,rfl⟩
 ·have hf:=zu (P:=P) az oi hall fz w;rw[show got none 0 dv.toList=none from rfl] at hf;refine⟨{w with heap:=w.heap.setIfInBounds aB (.map (dv.push {key:=oh,val:=w8,born:=an}) (an+1))},?_,cR _ _ ?_ gl I⟩
  ·simp only[Instr.mapUpdate,Sem.run_bind,run_underlying ht,Result.andThen_ok,il,aa,hf];exact Pv _ hh (λ_ _ _ h=>by cases h)
  ·refine .map (by simp[hlen]) (λj h1 h2=>?_);by_cases aA:j<es.length
   ·have:=u1 hall j aA (by simp;omega);rw[List.getElem_append_left aA,Array.getElem_push_lt (by omega)];simpa [rV] using this
   ·have eR:j=es.length:=by simp at h1;omega
    subst eR;have:(dv.push {key:=oh,val:=w8,born:=an})[es.length]'h2={key:=oh,val:=w8,born:=an}:=by
     simp only[<-hlen,Array.getElem_push_eq]
    rw[this];simp only[List.getElem_append_right (Nat.le_refl _),Nat.sub_self,List.getElem_cons_zero];exact⟨oi,PI,trivial⟩
 ·have hf:=zu (P:=P) az oi hall fz w;obtain⟨CV,cY⟩:=List.getElem?_eq_some_iff.1 hi;have iD:i<dv.toList.length:=by simp;omega
  have a3e:i<dv.size:=by simpa using iD
  have jn:=u1 hall i CV iD;rw[cY] at jn;have w7:got (some i) 0 dv.toList=some (i,dv.toList[i].val):=by simp[got,List.getElem?_eq_getElem iD]
  rw[w7] at hf;obtain⟨a4,ly,a3f⟩:=fz.lt;rw[hi] at ly;cases ly;have uS:=(CU az jn.1 oi (r:=true) (by
   exact a3a a3f)).2 I
  have gA:dv[i]? =some dv[i]:=Array.getElem?_eq_getElem a3e;refine⟨{w with heap:=w.heap.setIfInBounds aB (.map (dv.modify i λe=>{e with key:=oh,val:=w8}) an)},?_,cR _ _ ?_ gl I⟩
  ·simp only[Instr.mapUpdate,Sem.run_bind,run_underlying ht,Result.andThen_ok,il,aa,hf,gA,Option.map_some,Option.getD_some];have a3g:Instr.sameBits 10000 dv[i].key oh=true:=by simpa using uS
   have CW:(Instr.keyThatStays dv[i].key oh).run P w= .ok oh w:=by simp only[Instr.keyThatStays,a3g,if_true,Sem.run_pure]
   simp only[CW,Result.andThen_ok];exact Pv _ hh (λ_ _ _ h=>by cases h)
  ·refine .map (by simp[hlen]) (λj h1 h2=>?_);simp only[List.length_set] at h1;have aA:=u1 hall j h1 (by simp;omega);rw[List.getElem_set,Array.getElem_modify];by_cases Il:i=j
   ·subst Il;simp only[if_true];refine⟨oi,PI,?_⟩;have:=jn.2.2;simpa using this
   ·simp only[if_neg Il];simpa [rV] using aA
end
end Go.Lyc
end
noncomputable section
namespace Go.Lyc
set_option maxHeartbeats 0
variable [Tok]
open Go.RowKit
open Go.ChangeMaps (setBlock)
section
variable {P:Program}{J:ad}{w:World}{m:Nat->Option Nat}{B f:Nat}
theorem a3h(s:ByteArray){c:Nat}(h:s.size<=c):(bytesRow s c).size=c:=by
 have:s.data.size=s.size:=rfl;simp[bytesRow,this];omega
theorem a3i{l:List Nat}(hl:∀c∈l,c<256){c:Nat}(i:Nat)(h:i<l.length):(bytesRow (strOf l) c)[i]? =some (.int .u8 (Int.ofNat l[i])):=by
 have aa:l[i]<256:=hl _ (List.getElem_mem h);unfold bytesRow;rw[Array.getElem?_append_left (by simp[strOf];exact h)];simp[strOf,h];omega
theorem a3j(ak:Rel P J w m B)(f:Nat){s d e:TypeId}(ao:P.underlying s=some .string)(hd:P.underlying d=some (.slice e))(he:P.underlying e=some (.int .u8)){l:List Nat}{u:Value}(hx:R w m (bj J m) B (.s l) u):
  ∃b4 av aP,(convert s d u).run P w= .ok b4 av/\R av aP (bj (J.push (.cells (l.map λc=>AV.i .u8 (Int.ofNat c)))) aP) B (.al J.next 0 l.length none none) b4/\Rel P (J.push (.cells (l.map λc=>AV.i .u8 (Int.ofNat c)))) av aP B/\Ext f J w m (J.push (.cells (l.map λc=>AV.i .u8 (Int.ofNat c)))) av aP:=by
 obtain⟨rfl,hl⟩:=hx.nm;have cj:(strOf l).size=l.length:=sX l;have k1:=grownCap_ge w (strOf l).size 0 e;have b2:=run_bytes_of_string (P:=P) w s d e (strOf l) ao hd he;obtain⟨cap,fV⟩:∃cap,cap=grownCap w (strOf l).size 0 e:=⟨_,rfl⟩
 rw[<-fV] at k1 b2;have s5:=a3h (strOf l) k1;obtain⟨h1,h2⟩:=ak.alloc f (w.drew.alloc (.cells (bytesRow (strOf l) cap) e ((bytesRow (strOf l) cap).size,(bytesRow (strOf l) cap).size+1))) (.cells (l.map λc=>AV.i .u8 (Int.ofNat c))) _ I I I I I
  (.cells (by rw[s5,List.length_map];omega) (λi h h'=>by
   simp only[List.length_map] at h;have h3:=a3i hl (c:=cap) i h;rw[Array.getElem?_eq_getElem h'] at h3;rw[List.getElem_map,Option.some.inj h3];exact .i _ _) (λi hi=>by
    have:¬(bytesRow (strOf l) cap).size<=i:=by omega
    simp[this]) (λx hx=>by obtain⟨c,_,rfl⟩:=List.mem_map.1 hx;rfl))
 refine⟨_,_,_,b2,?_,h1,h2⟩;rw[cj];refine .al (gz _ _ _) (by omega) (λc aa=>by cases aa) (n:=(bytesRow (strOf l) cap).size) ?_ (by rw[s5];simp[shN]);have:(w.drew.alloc (.cells (bytesRow (strOf l) cap) e ((bytesRow (strOf l) cap).size,(bytesRow (strOf l) cap).size+1))).heap[w.heap.size]? =some (.cells (bytesRow (strOf l) cap) e ((bytesRow (strOf l) cap).size,(bytesRow (strOf l) cap).size+1)):=heap_alloc_new w.drew _;unfold dV;rw[this]
theorem Im{x:AV}{n:Nat}(h:byteOf x=some n):x= .i .u8 (Int.ofNat n)/\n<256:=by
 unfold byteOf at h;split at h
 ·rename_i k;cases hb:Nat.blt k 256 with
  |false=>rw[hb] at h;cases h
  |true=>rw[hb] at h;cases h;exact⟨rfl,by simpa [Nat.blt_eq] using hb⟩
 ·cases h
theorem a3k(ak:Rel P J w m B){s d e:TypeId}(ao:P.underlying s=some (.slice e))(he:P.underlying e=some (.int .u8))(hd:P.underlying d=some .string){x:AV}{xs:List AV}{l:List Nat}{u:Value}(hx:R w m (bj J m) B x u)(h:readList J x=some xs)(hb:mapO byteOf xs=some l):
  (convert s d u).run P w= .ok (.string (strOf l)) w/\∀c∈l,c<256:=by
 obtain⟨hlen,gA⟩:=mG hb;have dg:xs=l.map λc=>AV.i .u8 (Int.ofNat c):=by
  apply List.ext_getElem
  ·simp[hlen]
  ·intro i h1 h2;have:=(Im (gA i h1 (by omega))).1;simp[this]
 have hlt:∀c∈l,c<256:=λc aa=>by
  obtain⟨i,hi,rfl⟩:=List.getElem_of_mem aa;exact(Im (gA i (by omega) hi)).2
 refine⟨?_,hlt⟩;obtain⟨base,c,us,rfl,hle,hR,w9,jl,CX⟩:=zp (U:=none) ak hx h (λa ha=>by rw[dg] at ha;obtain⟨c,_,rfl⟩:=List.mem_map.1 ha;rfl);cases base with
 |none=>
  obtain⟨h0,_⟩:=CX;have:l=[]:=by
   have:=congrArg List.length h0;simp[dg] at this;exact this
  subst this;rw[run_convert_bytes_string w s d e _ _ _ ao he hd];simp[Conv.bytesToString,strOf];rfl
 |some a=>
  obtain⟨a3l,u2,CY⟩:=CX;clear CY;have w0:xs.flatMap AV.cells=xs:=by
   have h1:∀y∈xs,AV.cells y=[y]:=λy hy=>by rw[dg] at hy;obtain⟨c,_,rfl⟩:=List.mem_map.1 hy;rfl
   clear hR w9 jl hle dg h hb hlen gA hx a3l
   induction xs with
   |nil=>rfl
   |cons y a8 aD=>rw[List.flatMap_cons,h1 y (by simp),aD (λz bg=>h1 z (by simp[bg]))];rfl
  have key:=run_convert_bytes_back (P:=P) w s d e a c (l.map Nat.toUInt8) ao he hd (λj aA=>by
   simp only[List.length_map] at aA;have PJ:j<us.length:=by rw[w9];simp[shN];omega
   rw[w0] at hR;have h1:=hR.2 j (by omega) PJ;have h2:xs[j]'(by omega)=AV.i .u8 (Int.ofNat l[j]):=(Im (gA j (by omega) aA)).1;rw[h2] at h1;have h3:=h1.kA;have aQ:=u2 j us[j] (List.getElem?_eq_getElem PJ);rw[aQ,h3];have aa:l[j]<256:=hlt _ (List.getElem_mem aA);simp;omega)
  have aN:xs.length=(l.map Nat.toUInt8).length:=by simp[hlen]
  rw[aN,key];rfl
theorem a3m(ak:Rel P J w m B)(f:Nat){t e:TypeId}{U:Option Nat}(ht:P.underlying t=some (.slice e))(ao:shapeOf P e=some U){i:TypeInfo}(hi:P.info? e=some i){z:AV}(bg:zeroOf P e=some z)(s0:z.cells.length=shN U){n c:Nat}{CZ l6:IntKind}(a3n:n<=c)(hb:i.bytes*c<=281474976710656)(aa:c<=281474976710656):
  ∃b4 av aP,(Instr.makeSlice t (.int CZ (Int.ofNat n)) (.int l6 (Int.ofNat c))).run P w= .ok b4 av/\R av aP (bj (J.push (.cells (f_ c z.cells))) aP) B (.al J.next 0 n U (some c)) b4/\Rel P (J.push (.cells (f_ c z.cells))) av aP B/\Ext f J w m (J.push (.cells (f_ c z.cells))) av aP:=by
 obtain⟨_,cj,_⟩:=jY ao w;have PK:i.size=shN U:=by
  have h1:=cj;simp[sizeOf,typeInfo,hi] at h1;exact h1
 obtain⟨dZ,g2,kZ,k0⟩:=pj bg w;have u3:i.zero=some dZ:=by
  simp[zeroValue,typeInfo,hi] at g2;cases aS:i.zero with
  |none=>simp[aS] at g2
  |some q=>simp[aS] at g2;rw[g2]
 have lx:=(kZ w m (bj J m) B).cells;have kC:dZ.cells.size=shN U:=by have:=lx.1;simp at this;omega
 have b2:=run_make (P:=P) w t e i dZ ht hi u3 CZ l6 (Int.ofNat n) (Int.ofNat c) (Int.natCast_nonneg _) (by show(n:Int)<=c;omega) (by
                                                                         show(i.bytes:Int)*(c:Int)<=_;have:((i.bytes*c:Nat):Int)<=281474976710656:=by omega
                                                                         rwa[Int.natCast_mul] at this) (by show(c:Int)<=_;omega)
 have jo:(Int.ofNat c).toNat=c:=rfl;have aN:(Int.ofNat n).toNat=n:=rfl;rw[jo,aN,PK] at b2;have l0:=wW lx c;have s3:dZ.cells.toList.length=shN U:=by simp[kC]
 rw[s3] at l0;have lZ:(madeCells dZ.cells (c*shN U)).toList=(List.range (c*shN U)).map λi=>dZ.cells.toList[i%shN U]! :=by
  unfold madeCells;rw[Array.toList_map,Array.toList_range];apply List.map_congr_left;intro a _;rw[kC,Array.getElem!_eq_getD,Array.getD_eq_getD_getElem?];simp
 rw[<-lZ] at l0;have wY:(madeCells dZ.cells (c*shN U)).size=c*shN U:=size_madeCells _ _;obtain⟨av,aP,hE,ky,mH,rO,zo⟩:=CK ak f (el:=e) l0 (wX k0 c);have a3o:av=w.alloc (.cells (madeCells dZ.cells (c*shN U)) e):=by
  have h1:(newRow e (madeCells dZ.cells (c*shN U))).run P w= .ok ⟨w.heap.size,0,none⟩ {w with heap:=w.heap.push (.cells (madeCells dZ.cells (c*shN U)) e)}:=by simp[newRow]
  rw[h1] at hE;cases hE;rfl
 subst a3o;exact⟨_,_,aP,b2,.al ky a3n (λbM gY=>by cases gY;rfl) (n:=(madeCells dZ.cells (c*shN U)).size) (by unfold dV;rw[mH]) (by rw[wY];omega),rO,zo⟩
theorem a3p(ak:Rel P J w m B)(f:Nat){t Io ty e:TypeId}{U:Option Nat}{fu u4:IntKind}(ht:P.underlying t=some (.slice e))(a3q:P.underlying Io=some (.int fu))(ao:shapeOf P e=some U){i:TypeInfo}(hi:P.info? e=some i){z:AV}(bg:zeroOf P e=some z)(s0:z.cells.length=shN U)(uW:i.bytes≠0)(b8U:0<shN U){k:Nat}(h0:0<k)(hb:(3*k+2000)*i.bytes<=281474976710656):
  ∃b4 av aP,(Builtin.append_ #[t,Io] ty #[.slice none 0 0,.int u4 (Int.ofNat k)]).run P w= .ok b4 av/\R av aP (bj (J.push (.cells (f_ k z.cells))) aP) B (.al J.next 0 k U none) b4/\Rel P (J.push (.cells (f_ k z.cells))) av aP B/\Ext f J w m (J.push (.cells (f_ k z.cells))) av aP:=by
 obtain⟨_,cj,_⟩:=jY ao w;have PK:i.size=shN U:=by
  have h1:=cj;simp[sizeOf,typeInfo,hi] at h1;exact h1
 obtain⟨dZ,g2,kZ,k0⟩:=pj bg w;have u3:i.zero=some dZ:=by
  simp[zeroValue,typeInfo,hi] at g2;cases aS:i.zero with
  |none=>simp[aS] at g2
  |some q=>simp[aS] at g2;rw[g2]
 have lx:=(kZ w m (bj J m) B).cells;have kC:dZ.cells.size=shN U:=by have:=lx.1;simp at this;omega
 have jB:1<=i.bytes:=Nat.one_le_iff_ne_zero.2 uW;have j0:(3*k+2000)*1<=(3*k+2000)*i.bytes:=Nat.mul_le_mul_left _ jB;have qC:k*i.bytes<=(3*k+2000)*i.bytes:=Nat.mul_le_mul_right _ (by omega);have b2:=Lib.run_append_nil_zeros (P:=P) w t Io ty e i dZ u4 fu ht a3q hi u3 k h0 (by omega) (by omega) (by omega);have k1:=grownCap_ge w k 0 e;have l0:=wW lx k;have s3:dZ.cells.toList.length=shN U:=by simp[kC]
 have hh:(Builtin.zeroCells dZ.cells k).toList=(List.range (k*dZ.cells.toList.length)).map λi=>dZ.cells.toList[i%dZ.cells.toList.length]! :=by
  simp only[Builtin.zeroCells,Array.toList_map,Array.toList_range,Array.length_toList];exact List.map_congr_left λi _=>by simp only[getElem!_def,Array.getElem?_toList]
 rw[<-hh] at l0;have wY:(Builtin.zeroCells dZ.cells k).size=k*shN U:=by rw[size_zeroCells,kC]
 have s5:(Builtin.zeroCells dZ.cells k++Builtin.zeroCells dZ.cells (grownCap w k 0 e-k)).size=grownCap w k 0 e*shN U:=by
  rw[Array.size_append,size_zeroCells,size_zeroCells,kC,← Nat.add_mul]
  congr 1;omega
 have zx:(f_ k z.cells).length=k*shN U:=by have:=l0.1;rw[Array.length_toList,wY] at this;omega
 obtain⟨h1,h2⟩:=ak.alloc f (w.drew.alloc (.cells (Builtin.zeroCells dZ.cells k++Builtin.zeroCells dZ.cells (grownCap w k 0 e-k)) e)) (.cells (f_ k z.cells)) _ I I I I I
  (.cells (by rw[s5,zx];exact Nat.mul_le_mul_right _ k1) (λj h h'=>by
   have aA:j<(Builtin.zeroCells dZ.cells k).size:=by omega
   have:=l0.2 j h (by simpa using aA);rw[Array.getElem_append_left aA];simpa using this) (λj _=>by simp) (wX k0 k))
 refine⟨_,_,_,b2,.al (gz _ _ _) k1 (λc aa=>by cases aa) (n:=grownCap w k 0 e*shN U) ?_ (by omega),h1,h2⟩;have:(w.drew.alloc (.cells (Builtin.zeroCells dZ.cells k++Builtin.zeroCells dZ.cells (grownCap w k 0 e-k)) e)).heap[w.heap.size]? =some (.cells (Builtin.zeroCells dZ.cells k++Builtin.zeroCells dZ.cells (grownCap w k 0 e-k)) e):=by
  exact heap_alloc_new w.drew _
 unfold dV;rw[this];simp only[s5]
theorem Rel.a3r(ak:Rel P J w m B){id aB since fZ:Nat}{seen:List Nat}(hm:m id=some aB)(hg:J.get id=some (.mapIter none since seen fZ)):w.heap[aB]? =some (.mapIter none since seen.toArray fZ):=by
 obtain⟨bH,h1,h2⟩:=ak.obj _ _ _ hm hg I;cases h2 with
 | @mapIter _ b _ _ _ hb=>
  cases b with
  |none=>exact h1
  |some b=>exact hb.elim
theorem Rel.PL(ak:Rel P J w m B){id aB i since fZ:Nat}{seen:List Nat}(hm:m id=some aB)(hg:J.get id=some (.mapIter (some i) since seen fZ)):∃b,w.heap[aB]? =some (.mapIter (some b) since seen.toArray fZ)/\m i=some b:=by
 obtain⟨bH,h1,h2⟩:=ak.obj _ _ _ hm hg I;cases h2 with
 | @mapIter _ b _ _ _ hb=>
  cases b with
  |none=>exact hb.elim
  |some b=>exact⟨b,h1,hb⟩
theorem run_getObj_map{aB:Nat}{es:Array MapEntry}{an:Nat}(h:w.heap[aB]? =some (.map es an)):(getObj aB).run P w= .ok (.map es an) w:=
 CQ (P:=P) (w:=w) h (λ_ _ _ h=>by cases h)
theorem PM(o:Obj)(w:World):(newObj o).run P w= .ok w.heap.size (w.alloc o):=rfl
theorem PN(ak:Rel P J w m B)(f:Nat){t k e:TypeId}(ht:P.underlying t=some (.map k e)){r:Option Nat}{u:Value}(hx:R w m (bj J m) B (.m r) u){o:AO}
  (ho:match r with|none=>o= .mapIter none 0 [] 0|some id=>∃es an,J.get id=some (.map es an)/\o= .mapIter (some id) an [] an):
  ∃b4 av aP,(Instr.range t u).run P w= .ok b4 av/\R av aP (bj (J.push o) aP) B (iz J.next 0) b4/\Rel P (J.push o) av aP B/\Ext f J w m (J.push o) av aP:=by
 cases r with
 |none=>
  simp only at ho;subst ho;cases hx;obtain⟨h1,h2⟩:=ak.alloc f (w.alloc (.mapIter none 0 #[] 0)) (.mapIter none 0 [] 0) (.mapIter none 0 #[] 0) I I I I I (.mapIter trivial);exact⟨.pointer (some ⟨w.heap.size,0,none⟩),w.alloc (.mapIter none 0 #[] 0),_,by simp[Instr.range,run_underlying ht,PM],.p (gz _ _ _),h1,h2⟩
 |some id=>
  obtain⟨es,an,hg,rfl⟩:=ho;obtain⟨aB,hm,rfl⟩:=hx.CL;obtain⟨dv,hh,_⟩:=ak.zv hm hg;obtain⟨h1,h2⟩:=ak.alloc f (w.alloc (.mapIter (some aB) an #[] an)) (.mapIter (some id) an [] an) (.mapIter (some aB) an #[] an) I I I I I (.mapIter hm);exact⟨.pointer (some ⟨w.heap.size,0,none⟩),w.alloc (.mapIter (some aB) an #[] an),_,by simp[Instr.range,run_underlying ht,run_getObj_map hh,PM],.p (gz _ _ _),h1,h2⟩
theorem PO(n:Nat):∀(l:List Nat),mE n l=l.contains n
 |[]=>rfl
 |x::l=>by
  show cond (Nat.beq x n) true (mE n l)=_;rw[List.contains_cons,PO n l];have:(n==x)=Nat.beq x n:=by
   rw[Bool.eq_iff_iff,Nat.beq_eq,beq_iff_eq];exact⟨λh=>h.symm,λh=>h.symm⟩
  rw[this];cases Nat.beq x n<;>rfl
theorem PQ(seen:List Nat):∀(es:List jm),kT seen es=es.filter λe=>!seen.contains e.2.2
 |[]=>rfl
 |e::es=>by
  show cond (mE e.2.2 seen) (kT seen es) (e::kT seen es)=_;rw[PQ seen es,PO,List.filter_cons];cases seen.contains e.2.2<;>rfl
theorem Ip{α β:Type}{r:α->β->Prop}{p:α->Bool}{q:β->Bool}(h:∀x y,r x y->p x=q y):∀ {l:List α} {cf:List β},hG r l cf->hG r (l.filter p) (cf.filter q)
 |[],[],_=>trivial
 |[],_::_,h'=>h'.elim
 |_::_,[],h'=>h'.elim
 |x::l,y::cf,h'=>by
  rw[List.filter_cons,List.filter_cons,h x y h'.1];cases q y with
  |true=>exact⟨h'.1,Ip h h'.2⟩
  |false=>exact Ip h h'.2
theorem PR(ak:Rel P J w m B){f:Nat}{it aB i since:Nat}{seen:List Nat}(hf:f<=it)(hm:m it=some aB)(hg:J.get it=some (.mapIter (some i) since seen since)){es:List jm}(jC:J.get i=some (.map es since))(a3s:∀e∈es,e.2.2<since)(t:TypeId):
  (kT seen es=[]/\(Instr.next (.pointer (some ⟨aB,0,none⟩)) false t).run P w= .ok (.tuple #[.bool false]) w)∨
  ∃e∈kT seen es,∃u av,(Instr.next (.pointer (some ⟨aB,0,none⟩)) false t).run P w= .ok u av∧
   R av m (bj (J.set it (.mapIter (some i) since (seen++[e.2.2]) since)) m) B (.a6 [.b true,e.1,e.2.1]) u/\Rel P (J.set it (.mapIter (some i) since (seen++[e.2.2]) since)) av m B/\Ext f J w m (J.set it (.mapIter (some i) since (seen++[e.2.2]) since)) av m:=by
 obtain⟨b,hh,s8⟩:=ak.PL hm hg;obtain⟨dv,zy,hall⟩:=ak.zv s8 jC;have a3t:∀e∈dv.toList,e.born<since:=λeg zi=>by
  obtain⟨k,az,rfl⟩:=List.getElem_of_mem zi;have hlen:=u0 hall;have:=u1 hall k (by omega) az;rw[this.2.2];exact a3s _ (List.getElem_mem _)
 have Iq:hG (rV w m (bj J m) B) (kT seen es) (leftOf dv seen.toArray).toList:=by
  rw[PQ];have h1:(leftOf dv seen.toArray).toList=dv.toList.filter λe=>!seen.contains e.born:=by simp[leftOf]
  rw[h1];exact Ip (λx y h=>by rw[h.2.2]) hall
 have hlt:=(ak.fk _ _ hm).1;rcases run_next_at (P:=P) w t aB b since since seen.toArray dv since hh zy a3t (Nat.le_refl _) with⟨h1,h2⟩|⟨eg,zi,bR,mN,h2⟩
 ·refine .inl ⟨?_,h2⟩;have:=u0 Iq;rw[Array.length_toList,h1] at this;exact List.eq_nil_of_length_eq_zero this.symm
 ·obtain⟨k,az,rfl⟩:=List.getElem_of_mem zi;have hlen:=u0 Iq;have jn:=u1 Iq k (by omega) az;refine .inr ⟨(kT seen es)[k]'(by omega),List.getElem_mem _,?_⟩;generalize(kT seen es)[k]'(by omega)=e at jn;generalize(leftOf dv seen.toArray).toList[k]=aN at jn h2;obtain⟨a3u,a3v,a3w⟩:=jn;have Ir:bR.heap=w.heap:=by rcases mN with rfl|rfl<;>rfl
  have a3x:dV w aB=none:=by unfold dV;rw[hh]
  obtain⟨kD,gb⟩:=ak.cR (f:=f) hf hm ⟨_,hg,rfl⟩ (setBlock bR aB (.mapIter (some b) since (seen.toArray.push aN.born) since)) (.mapIter (some i) since (seen++[e.2.2]) since)
   (by simp[setBlock,Ir]) (λk az=>by simp[setBlock,Ir,Array.getElem?_setIfInBounds,Ne.symm az]) (λn hn=>by rw[a3x] at hn;cases hn)
   (by rcases mN with rfl|rfl<;>rfl) (by rcases mN with rfl|rfl<;>rfl) (by rcases mN with rfl|rfl<;>rfl)
   (λ_=>⟨.mapIter (some b) since (seen.toArray.push aN.born) since,by simp[setBlock,Ir,Array.getElem?_setIfInBounds,hlt],by
    have jo:seen.toArray.push aN.born=(seen++[e.2.2]).toArray:=by rw[a3w];simp
    rw[jo];exact .mapIter s8⟩)
  exact⟨_,_,h2,R.rM (bz.cons (.b true) (bz.cons (a3u.ext gb ak) (bz.cons (a3v.ext gb ak) bz.nil))),kD,gb⟩
theorem PS{nt:Nat}:∀ {es:List jm} {dv:List MapEntry} {e:jm},hG (rV w m (bj J m) B) es dv->ng nt es=some e->∃eg,dv.find? (λx=>x.born==nt)=some eg/\rV w m (bj J m) B e eg
 |[],[],e,_,h=>by cases h
 |[],_::_,_,h,_=>h.elim
 |_::_,[],_,h,_=>h.elim
 |x::es,y::dv,e,hall,h=>by
  have h:cond (Nat.beq x.2.2 nt) (some x) (ng nt es)=some e:=h;have hb:(y.born==nt)=Nat.beq x.2.2 nt:=by
   rw[hall.1.2.2,Bool.eq_iff_iff,Nat.beq_eq,beq_iff_eq]
  rw[List.find?_cons,hb];cases aS:Nat.beq x.2.2 nt with
  |true=>rw[aS] at h;cases h;exact⟨y,rfl,hall.1⟩
  |false=>rw[aS] at h;exact PS hall.2 h
theorem PT:∀(l:List Nat),n6 l=l.getLast?
 |[]=>rfl
 |x::l=>by
  have h:n6 (x::l)=match n6 l with|none=>some x|some y=>some y:=rfl
  rw[h,PT l,List.getLast?_cons];cases l.getLast? <;>rfl
theorem a3y(ak:Rel P J w m B){it aB i since an:Nat}{seen:List Nat}(hm:m it=some aB)(hg:J.get it=some (.mapIter (some i) since seen an)){es:List jm}(jC:J.get i=some (.map es an)){nt:Nat}(hl:n6 seen=some nt){e:jm}(he:ng nt es=some e):
  ∃u,(Instr.entry (.pointer (some ⟨aB,0,none⟩))).run P w= .ok u w/\R w m (bj J m) B (.a6 [e.1,e.2.1]) u:=by
 obtain⟨b,hh,s8⟩:=ak.PL hm hg;obtain⟨dv,zy,hall⟩:=ak.zv s8 jC;obtain⟨eg,h1,h2⟩:=PS hall he;have s9:seen.toArray.back? =some nt:=by rw[PT] at hl;simpa using hl
 have hf:dv.find? (λx=>x.born==nt)=some eg:=by rw[<-Array.find?_toList];exact h1
 refine⟨.tuple #[eg.key,eg.val],?_,R.rM (bz.cons h2.1 (bz.cons h2.2.1 bz.nil))⟩;simp only[Instr.entry,getObj,Sem.run_bind,Sem.run,hh,zy,Result.andThen,s9,bne_self_eq_false,Bool.false_eq_true,if_false,hf];rfl
theorem a3z(ak:Rel P J w m B){it aB since fZ:Nat}{seen:List Nat}(hm:m it=some aB)(hg:J.get it=some (.mapIter none since seen fZ))(t:TypeId):
  (Instr.next (.pointer (some ⟨aB,0,none⟩)) false t).run P w= .ok (.tuple #[.bool false]) w:=by
 have hh:=ak.a3r hm hg;simp only[Instr.next,getObj,Sem.run_bind,Sem.run,hh,Result.andThen];rfl
end
end Go.Lyc
end
noncomputable section
namespace Go.Lyc
set_option maxHeartbeats 0
variable [Tok]
open Go.RowKit
section
variable {P:Program}{w:World}{m:Nat->Option Nat}{O:Nat->Prop}{B:Nat}
theorem a3A{t e:TypeId}{U:Option Nat}(hu:P.underlying t=some (.slice e))(ao:shapeOf P e=some U){ol:Bool}{xs:List AV}{u:Value}(hx:R w m O B (.a7 ol U xs) u)
  {cF hi:Option Value} {l h:Nat} (hl:ke 0 cF l) (hh:ke xs.length hi h) (h1:l<=h) (h2:h<=xs.length):
  ∃b4,(Instr.sliceAt t u cF hi none).run P w= .ok b4 w/\R w m O B (.a7 ol U ((xs.drop l).take (h-l))) b4:=by
 obtain⟨_,cj,_⟩:=jY ao w;cases hx with
 |kb=>
  have aN:h=0:=by simpa using h2
  subst aN;have a4:l=0:=by omega
  subst a4;refine⟨.slice none 0 0,?_,?_⟩
  ·have:=qz (P:=P) (w:=w) (isSlice:=true) (len:=0) (cap:=0) hl hh (Nat.le_refl 0) (Nat.le_refl 0);simp[Instr.sliceAt,Instr.slice,run_underlying hu,this,cj]
  ·simpa using R.kb
 | @a7 _ _ _ _ _ _ aB off fo sp a8 cb pn aa ak kz hf eP=>
  by_cases lz:xs=[]
  ·subst lz;have aN:h=0:=by simpa using h2
   subst aN;have a4:l=0:=by omega
   subst a4;refine⟨.slice (some ⟨aB,off,sp⟩) 0 fo,?_,?_⟩
   ·have:=qz (P:=P) (w:=w) (isSlice:=true) (len:=0) (cap:=fo) hl hh (Nat.le_refl 0) (Nat.zero_le _);simp[Instr.sliceAt,Instr.slice,run_underlying hu,this,cj,Addr.add]
   ·exact .a7 (xs:=[]) (λ_ _=>undef) (λh=>absurd I h) (λi h=>by simp at h) (λi h=>by simp at h) (λi h=>by simp at h) (Nat.zero_le _) (λv au=>by simp at au) (λh=>absurd I h)
  obtain rfl:=eP lz;have hlen:((xs.drop l).take (h-l)).length=h-l:=by simp;omega
  have b2:(Instr.sliceAt t (.slice (some ⟨aB,off,none⟩) xs.length fo) cF hi none).run P w= .ok (.slice (some ⟨aB,if fo=l then off else off+l*shN U,none⟩) (h-l) (fo-l)) w:=by
   simp only[Instr.sliceAt,Instr.slice,run_underlying hu,Sem.run_bind,Result.andThen_ok,qz hl hh h1 (Nat.le_trans h2 kz),cj,Sem.run_pure];split<;>simp[jZ]
  refine⟨_,b2,?_⟩;by_cases bg:h-l=0
  ·have jo:(xs.drop l).take (h-l)=[]:=List.eq_nil_of_length_eq_zero (by omega);rw[jo,bg];exact .a7 (xs:=[]) (λ_ _=>undef) (λh=>absurd I h) (λi h=>by simp at h) (λi h=>by simp at h) (λi h=>by simp at h) (Nat.zero_le _) (λv au=>by simp at au) (λh=>absurd I h)
  ·have fH:¬fo=l:=by omega
   rw[if_neg fH];have gA:∀i (hi:i<((xs.drop l).take (h-l)).length),((xs.drop l).take (h-l))[i]=xs[l+i]'(by omega):=λi hi=>by
    rw[List.getElem_take,List.getElem_drop]
   have a5:xs≠[]:=λe=>by subst e;simp at h2;omega
   have key:R w m O B (.a7 ol U ((xs.drop l).take (h-l))) (.slice (some ⟨aB,off+l*shN U,none⟩) ((xs.drop l).take (h-l)).length (fo-l)):=by
    refine .a7 (λi j=>a8 (l+i) j) (λ_=>cb a5) (λi hi=>?_) (λi hi j aA=>?_) (λi hi j aA=>?_) (by omega) (λv au=>hf v (List.mem_of_mem_drop (List.mem_of_mem_take au))) (λ_=>rfl)
    ·rw[gA i hi];exact pn _ (by omega)
    ·simp only[gA i hi] at aA;have:=aa (l+i) (by omega) j aA;rw[<-this];congr 2;rw[Nat.add_mul];omega
    ·simp only[gA i hi] at aA ⊢;exact ak (l+i) (by omega) j aA
   rw[hlen] at key;exact key
end
theorem Rel.u5{P:Program}{J:ad}{w:World}{m:Nat->Option Nat}{B:Nat}(ak:Rel P J w m B):∀b,bj J m b->B<=b:=λ_ ⟨_,h,_⟩=>ak.base _ _ h
structure Ctx(P:Program)(env:Env)(J:ad)(w:World)(m:Nat->Option Nat)(B:Nat)(al:aX AV)(a:Act):Prop where
 rel:Rel P J w m B
 a_:hC w m (bj J m) B al a.tmps.toList
 globs:Globs env w B
section
variable {P:Program}{env:Env}{J:ad}{w:World}{m:Nat->Option Nat}{B:Nat}{f:Nat}{al:aX AV}{a:Act}
theorem Ctx.aq(c:Ctx P env J w m B al a){x:Operand}{bC:aF}(hx:opdOf x=some bC){v:AV}(au:evalA env al bC=some v):R w m (bj J m) B v (a.eval x):=HS c.rel.u5 c.globs c.a_ hx au
theorem Ctx.om(c:Ctx P env J w m B al a){x:Option Operand}{bC:Option aF}(hx:opdO x=some bC){d n:Nat}(au:bndO (evalA env al) bC d=some n):ke d (x.map a.eval) n:=a2g c.rel.u5 c.globs c.a_ hx au
theorem a3B(c:Ctx P env J w m B al a){r:Result Next}{v:AV}(h:∃u,r= .ok (.value u) w/\R w m (bj J m) B v u):eX P B f J w m v J r:=
 let⟨_,h1,h2⟩:=h;eX.pure c.rel h1 h2
theorem e6(c:Ctx P env J w m B al a){s:Sem Value}{v:AV}(h:∃u,s.run P w= .ok u w/\R w m (bj J m) B v u):eX P B f J w m v J ((do pure (.value (←s)):Sem Next).run P w):=by
 obtain⟨u,h1,h2⟩:=h;exact eX.pure c.rel (by simp[h1]) h2
theorem oo{s:Sem Value}{v:AV}{af:ad}(h:∃u av aP,s.run P w= .ok u av/\R av aP (bj af aP) B v u/\Rel P af av aP B/\Ext f J w m af av aP):eX P B f J w m v af ((do pure (.value (←s)):Sem Next).run P w):=by
 obtain⟨u,av,aP,h1,h2,h3,aQ⟩:=h;exact⟨u,av,aP,.inl (by simp[h1]),h2,h3,aQ⟩
theorem Is{s:Sem Unit}{af:ad}(h:∃av,s.run P w= .ok () av/\Rel P af av m B/\Ext f J w m af av m):eX P B f J w m dB af ((do s;pure .skip:Sem Next).run P w):=by
 obtain⟨av,h1,h2,h3⟩:=h;exact⟨undef,av,m,.inr ⟨by simp[h1],rfl⟩,R.undef,h2,h3⟩
variable {o:Oper}{cl:AOp}{v:AV}{af:ad}
theorem PU(c:Ctx P env J w m B al a){x:Operand}(ho:o.op= .move x\/o.op= .assign x)(aa:cop P o=some cl)(h:opx f (evalA env al) J cl=some (.val v af)):eX P B f J w m v af ((execOp a.eval o).run P w):=by
 have hx:∃bC,opdOf x=some bC/\cl= .bx bC:=by
  unfold cop at aa;rcases ho with ho|ho<;>(rw[ho] at aa;simp only[Option.map_eq_some_iff] at aa;obtain⟨bC,h1,rfl⟩:=aa;exact⟨bC,h1,rfl⟩)
 obtain⟨bC,hx,rfl⟩:=hx;simp only[opx] at h;split at h<;>cases h;rename_i au;have e:execOp a.eval o=pure (.value (a.eval x)):=by unfold execOp;rcases ho with ho|ho<;>rw[ho]
 rw[e];exact eX.pure c.rel I (c.aq hx au)
theorem a3C(c:Ctx P env J w m B al a){x y z:Operand}(ho:o.op= .pick x y z)(aa:cop P o=some cl)(h:opx f (evalA env al) J cl=some (.val v af)):eX P B f J w m v af ((execOp a.eval o).run P w):=by
 simp only[cop,ho,Option.bind_eq_bind,Option.bind_eq_some_iff,Option.pure_def,Option.some.injEq] at aa;obtain⟨bC,hx,eh,hy,s_,bg,rfl⟩:=aa;simp only[opx] at h;split at h<;>try (cases h;done)
 rename_i t ht;split at h<;>cases h;rename_i au;have hb:=(c.aq hx ht).sY;simp only[execOp,ho];refine a3B c ⟨if t then a.eval y else a.eval z,by simp[hb];cases t<;>rfl,?_⟩;cases t with
 |true=>exact c.aq hy au
 |false=>exact c.aq bg au
theorem a3D(c:Ctx P env J w m B al a){t:TypeId}(ho:o.op= .alloc t)(aa:cop P o=some cl)(h:opx f (evalA env al) J cl=some (.val v af)):eX P B f J w m v af ((execOp a.eval o).run P w):=by
 simp only[cop,ho,Option.map_eq_some_iff] at aa;obtain⟨z,bg,rfl⟩:=aa;simp only[opx] at h;cases h;simp only[execOp,ho];exact oo (a1O c.rel bg)
theorem a3E(c:Ctx P env J w m B al a){t:TypeId}{x:Operand}(ho:o.op= .box t x)(aa:cop P o=some cl)(h:opx f (evalA env al) J cl=some (.val v af)):eX P B f J w m v af ((execOp a.eval o).run P w):=by
 simp only[cop,ho,Option.map_eq_some_iff] at aa;obtain⟨bC,hx,rfl⟩:=aa;simp only[opx] at h;split at h<;>try (cases h;done)
 rename_i bA au;cases hval:bA.val with
 |false=>rw[hval] at h;cases h
 |true=>
  rw[hval,cond_true] at h;cases h;simp only[execOp,ho];exact oo (a1M c.rel (c.aq hx au) (HY (c.aq hx au) hval))
theorem a3F(c:Ctx P env J w m B al a){t:TypeId}{x:Operand}(ho:o.op= .load t x)(aa:cop P o=some cl)(h:opx f (evalA env al) J cl=some (.val v af)):eX P B f J w m v af ((execOp a.eval o).run P w):=by
 simp only[cop,ho,Option.bind_eq_bind,Option.bind_eq_some_iff,Option.pure_def,Option.some.injEq] at aa;obtain⟨U,ao,bC,hx,rfl⟩:=aa;simp only[opx] at h;simp only[execOp,ho];split at h<;>try (cases h;done)
 rename_i p ar;split at h<;>cases h;rename_i au;exact e6 c (a1J c.rel ao (c.aq hx ar) au)
theorem a3G(c:Ctx P env J w m B al a){t:TypeId}{x y:Operand}(ho:o.op= .store t x y)(aa:cop P o=some cl)(h:opx f (evalA env al) J cl=some (.val v af)):eX P B f J w m v af ((execOp a.eval o).run P w):=by
 simp only[cop,ho,Option.bind_eq_bind,Option.bind_eq_some_iff,Option.pure_def,Option.some.injEq] at aa;obtain⟨U,ao,bC,hx,eh,hy,rfl⟩:=aa;simp only[opx] at h;simp only[execOp,ho];split at h<;>try (cases h;done)
 rename_i id off bA ar au;split at h<;>try (cases h;done)
 rename_i dE;split at h<;>try (cases h;done)
 rename_i rW;split at h<;>try (cases h;done)
 rename_i cs hg;split at h<;>cases h;rename_i bM cA;obtain⟨aB,hm,kX⟩:=(c.aq hx ar).sZ;rw[kX];exact Is (a1L c.rel ao (by simpa [Nat.blt_eq] using dE) hm hg rW cA (c.aq hy au))
theorem a3H(c:Ctx P env J w m B al a){x:Operand}(ho:o.op= .nilCheck x)(aa:cop P o=some cl)(h:opx f (evalA env al) J cl=some (.val v af)):eX P B f J w m v af ((execOp a.eval o).run P w):=by
 simp only[cop,ho,Option.map_eq_some_iff] at aa;obtain⟨bC,hx,rfl⟩:=aa;simp only[opx] at h;split at h<;>try (cases h;done)
 rename_i bA au;cases hn:nilOk bA with
 |false=>rw[hn] at h;cases h
 |true=>
  rw[hn,cond_true] at h;cases h;exact eX.pure c.rel (a2n ho (c.aq hx au) hn) (c.aq hx au)
theorem a3I(c:Ctx P env J w m B al a){op:UnOp}{t:TypeId}{x:Operand}(ho:o.op= .unOp op t x)(aa:cop P o=some cl)(h:opx f (evalA env al) J cl=some (.val v af)):eX P B f J w m v af ((execOp a.eval o).run P w):=by
 simp only[execOp,ho];cases op<;>simp only[cop,ho,Option.map_eq_some_iff,reduceCtorEq] at aa
 ·obtain⟨bC,hx,rfl⟩:=aa;simp only[opx] at h;split at h<;>cases h;rename_i au;exact e6 c ⟨_,a2p (c.aq hx au),.i _ _⟩
 ·obtain⟨bC,hx,rfl⟩:=aa;simp only[opx] at h;split at h<;>cases h;rename_i au;exact e6 c ⟨_,a2o (c.aq hx au),.b _⟩
theorem PV:∀ {bo l7:List Nat} {l r:List AV} {res:Bool},kR (bo++l7) l r=some res->∃a b,kR bo (l.take bo.length) (r.take bo.length)=some a/\kR l7 (l.drop bo.length) (r.drop bo.length)=some b/\res=(a&&b)
 |[],l7,l,r,res,h=>⟨true,res,rfl,by simpa using h,by simp⟩
 |k::bo,l7,l,r,res,h=>by
  rw[List.cons_append,leafEqs_cons] at h;split at h<;>try (cases h;done)
  rename_i x xs y a8;split at h<;>cases h;rename_i a b ha hb;obtain⟨cn,e5,h1,h2,rfl⟩:=PV hb;refine⟨a&&cn,e5,?_,h2,by rw[Bool.and_assoc]⟩;rw[List.length_cons,List.take_succ_cons,List.take_succ_cons,leafEqs_cons];simp only[ha,h1]
theorem It{d:Nat}{cs ds:List AV}{us bf:Array Value}{O:Nat->Prop}(hl:bz w m O B cs us.toList)(ak:bz w m O B ds bf.toList)(dE:∀x∈cs,conf none x=true)(bq:∀x∈ds,conf none x=true):
  ∀(a2:List Field) (i:Nat) (bo:List Nat) (res:Bool),flatS P i a2=some bo->kR bo (cs.drop i) (ds.drop i)=some res->∀av,
  (forIn a2 ((none:Option Bool),()) (λ(f:Field) (_:Option Bool×Unit)=>
      if f.name= "_" then(pure (ForInStep.yield (none,())):Sem (ForInStep (Option Bool×Unit)))
      else do
       let a <-part f.type us f.offset
       let b <-part f.type bf f.offset
       let c <-Op.equalIn (d+2) f.type a b
       if c=false then pure (ForInStep.done (some false,())) else pure (ForInStep.yield (none,())))).run P av= .ok (if res then(none,()) else(some false,())) av
 |[],i,bo,res,az,h,av=>by
  rw[flatS] at az;cases az;rw[leafEqs_nil] at h;split at h<;>cases h;simp
 |f::a2,i,bo,res,az,h,av=>by
  rw[flatS] at az;split at az<;>try (cases az;done)
  rename_i aa;obtain⟨h1,rfl⟩:=aa;split at az
  ·rename_i k fM;split at az<;>try (cases az;done)
   rename_i ao;obtain⟨rT,mJ,rfl⟩:=Option.map_eq_some_iff.1 az;rw[leafEqs_cons] at h;split at h<;>try (cases h;done)
   rename_i x xs y a8 ex PW;split at h<;>cases h;rename_i a b ha hb;obtain⟨u,hu,iC⟩:=(hl.drop f.offset).get (i:=0) (v:=x) (by rw[ex];rfl);obtain⟨v,au,Ig⟩:=(ak.drop f.offset).get (i:=0) (v:=y) (by rw[PW];rfl);rw[List.getElem?_drop,Nat.add_zero,Array.getElem?_toList] at hu au;obtain⟨aN,_⟩:=uZ fM iC Ig ha;have aD:=It hl ak dE bq a2 (f.offset+1) rT b mJ (by rw[<-List.drop_drop,← List.drop_drop,ex,PW];exact hb) av (d:=d);rw[List.forIn_cons];simp only[h1,if_false,Sem.run_bind,zt ao hu,zt ao au,Result.andThen_ok,aN];cases a with
   |false=>simp
   |true=>simpa using aD
  ·split at az<;>try (cases az;done)
   rename_i l7 Iu;split at az<;>try (cases az;done)
   rename_i ao;obtain⟨rT,mJ,rfl⟩:=Option.map_eq_some_iff.1 az;obtain⟨a,b,ha,hb,rfl⟩:=PV h;obtain⟨bN,bQ,_⟩:=jY ao av;have hx:∀ {cs:List AV} {us:Array Value},bz w m O B cs us.toList->(part f.type us f.offset).run P av= .ok (.agg (us.extract f.offset (f.offset+l7.length))) av/\bz w m O B ((cs.drop f.offset).take l7.length) (us.extract f.offset (f.offset+l7.length)).toList:=λaa=>by
    refine⟨by simp[part,bN,bQ,shN],?_⟩;have:=(aa.drop f.offset).take l7.length;simpa using this
   obtain⟨p1,hE⟩:=hx hl;obtain⟨rU,ky⟩:=hx ak;obtain⟨fT,hu,nu,hf,hm⟩:=CS Iu;have aN:(Op.equalIn (d+2) f.type (.agg (us.extract f.offset (f.offset+l7.length))) (.agg (bf.extract f.offset (f.offset+l7.length)))).run P av= .ok a av:=by
    have:=forIn_eq (av:=av) (d:=d) fT.toList 0 l7 _ _ (us.extract f.offset (f.offset+l7.length)) (bf.extract f.offset (f.offset+l7.length)) a hf hm (by rw[List.drop_zero];exact hE) (by rw[List.drop_zero];exact ky) ha;rw[eqStruct_run hu nu (d+1),this];cases a<;>simp
   have aD:=It hl ak dE bq a2 (f.offset+l7.length) rT b mJ (by rw[<-List.drop_drop,← List.drop_drop];exact hb) av (d:=d);rw[List.forIn_cons];simp only[h1,if_false,Sem.run_bind,p1,rU,Result.andThen_ok,aN];cases a with
   |false=>simp
   |true=>simpa using aD
theorem a3J{O:Nat->Prop}{t:TypeId}{kind:Nat}(az:stK P t=some kind){x y:AV}{v:Bool}{a b:Value}(ha:R w m O B x a)(hb:R w m O B y b)(h:isNilEq kind x y=some v)(eo dJ:Operand):
  (((do eqGuard .eql t eo dJ a b;Go.binOp .eql t a b:Sem Value).run P w= .ok (.bool v) w/\(do eqGuard .neq t eo dJ a b;Go.binOp .neq t a b:Sem Value).run P w= .ok (.bool (!v)) w)):=by
 unfold stK at az;split at az<;>try (cases az;done)
 rename_i a2 hu;split at az<;>try (cases az;done)
 rename_i nu;have nu:P.stoodInHeld t=false:=by simpa using nu
 split at az<;>try (cases az;done)
 rename_i bo Iu;split at az<;>cases az;rename_i hd;obtain⟨hd,hg⟩:=hd;have key:keyEq (.inr bo) x y=some v:=by
  unfold isNilEq at h;split at h
  case h_12=>
   have e:Nat.ble 10 (10+Cy bo)=true:=Nat.ble_eq_true_of_le (Nat.le_add_right _ _);rw[e,cond_true,Nat.add_sub_cancel_left,hd] at h;exact h
  case h_13=>cases h
  all_goals (rename_i bg;first|(exfalso;omega)|(rename_i g2 _;exfalso;omega)|(rename_i g2 _ _;exfalso;omega))
 simp only[keyEq] at key;split at key<;>try (cases key;done)
 obtain⟨us,rfl,hl,dE⟩:=ha.n_;obtain⟨bf,rfl,ak,bq⟩:=hb.n_;have he:(Op.equal t (.agg us) (.agg bf)).run P w= .ok v w:=by
  have a3K:∀d,(Op.equalIn (d+3) t (.agg us) (.agg bf)).run P w= .ok v w:=λd=>by
   have:=It (av:=w) (d:=d) hl ak dE bq a2.toList 0 bo v Iu (by simpa using key);rw[eqStruct_run hu nu (d+2),this];cases v<;>simp
  exact a3K 9997
 have h1:Go.binOp .eql t (.agg us) (.agg bf)=(do pure (.bool (←Op.equal t (.agg us) (.agg bf))):Sem Value):=rfl;have h2:Go.binOp .neq t (.agg us) (.agg bf)=(do pure (.bool (!(←Op.equal t (.agg us) (.agg bf)))):Sem Value):=rfl;have g:∀op,(eqGuard op t eo dJ (.agg us) (.agg bf)).run P w= .ok () w:=λop=>by
  unfold eqGuard;cases op<;>simp[hg]
 constructor
 ·rw[h1];simp[Sem.run_bind,g,he]
 ·rw[h2];simp[Sem.run_bind,g,he]
theorem a3L(c:Ctx P env J w m B al a){op:BinOp}{t:TypeId}{x y:Operand}{z:TypeId}(ho:o.op= .binOp op t x y z)(aa:cop P o=some cl)(h:opx f (evalA env al) J cl=some (.val v af)):eX P B f J w m v af ((execOp a.eval o).run P w):=by
 simp only[cop,ho,Option.bind_eq_bind,Option.bind_eq_some_iff] at aa;obtain⟨bC,hx,eh,hy,aa⟩:=aa;simp only[execOp,ho];have plain:cl= .bin op bC eh->eX P B f J w m v af ((do pure (.value (←(do eqGuard op t x y (a.eval x) (a.eval y);Go.binOp op t (a.eval x) (a.eval y)))):Sem Next).run P w):=λe=>by
  subst e;simp only[opx] at h;split at h<;>try (cases h;done)
  rename_i p q ar aS;split at h<;>cases h;rename_i au;obtain⟨u,h1,h2,h3⟩:=ok_bin (P:=P) (t:=t) (c.aq hx ar) (c.aq hy aS) au;exact e6 c ⟨u,by rw[h3 x y];exact h1,h2⟩
 have PX:∀neg,P.underlying t=some .bool->op=(if neg then .neq else .eql)->cl= .wJ neg bC eh->eX P B f J w m v af ((do pure (.value (←(do eqGuard op t x y (a.eval x) (a.eval y);Go.binOp op t (a.eval x) (a.eval y)))):Sem Next).run P w):=λneg ht dK e=>by
  subst e;simp only[opx] at h;split at h<;>try (cases h;done)
  rename_i p q ar aS;split at h<;>cases h;rename_i b au;obtain⟨h1,h2⟩:=a1T ht (c.aq hx ar) (c.aq hy aS) au x y;cases neg with
  |false=>subst dK;exact e6 c ⟨_,h1,.b _⟩
  |true=>subst dK;exact e6 c ⟨_,h2,.b _⟩
 have qE:∀kind neg,O9 P t kind->op=(if neg then .neq else .eql)->cl= .iQ kind neg bC eh->eX P B f J w m v af ((do pure (.value (←(do eqGuard op t x y (a.eval x) (a.eval y);Go.binOp op t (a.eval x) (a.eval y)))):Sem Next).run P w):=λkind neg ht dK e=>by
  subst e;simp only[opx] at h;split at h<;>try (cases h;done)
  rename_i p q ar aS;split at h<;>cases h;rename_i b au;obtain⟨h1,h2⟩:=a1V ht (c.aq hx ar) (c.aq hy aS) au x y;cases neg with
  |false=>subst dK;exact e6 c ⟨_,h1,.b _⟩
  |true=>subst dK;exact e6 c ⟨_,h2,.b _⟩
 have strs:∀kind neg,stK P t=some kind->op=(if neg then .neq else .eql)->cl= .iQ kind neg bC eh->eX P B f J w m v af ((do pure (.value (←(do eqGuard op t x y (a.eval x) (a.eval y);Go.binOp op t (a.eval x) (a.eval y)))):Sem Next).run P w):=λkind neg ht dK e=>by
  subst e;simp only[opx] at h;split at h<;>try (cases h;done)
  rename_i p q ar aS;split at h<;>cases h;rename_i b au;obtain⟨h1,h2⟩:=a3J ht (c.aq hx ar) (c.aq hy aS) au x y;cases neg with
  |false=>subst dK;exact e6 c ⟨_,h1,.b _⟩
  |true=>subst dK;exact e6 c ⟨_,h2,.b _⟩
 split at aa
 case h_15=>obtain⟨k,az,rfl⟩:=Option.map_eq_some_iff.1 aa;exact strs k false az I I
 case h_16=>obtain⟨k,az,rfl⟩:=Option.map_eq_some_iff.1 aa;exact strs k true az I I
 case h_17=>cases aa
 all_goals cases aa
 ·exact plain I
 ·exact plain I
 ·rename_i ht;exact PX false ht I I
 ·rename_i ht;exact PX true ht I I
 ·rename_i ht;exact qE 0 false (.inl ⟨rfl,_,ht⟩) I I
 ·rename_i ht;exact qE 0 true (.inl ⟨rfl,_,ht⟩) I I
 ·rename_i ht;exact qE 1 false (.inr (.inl ⟨rfl,_,ht⟩)) I I
 ·rename_i ht;exact qE 1 true (.inr (.inl ⟨rfl,_,ht⟩)) I I
 ·rename_i ht;exact qE 2 false (.inr (.inr (.inl ⟨rfl,_,_,_,ht⟩))) I I
 ·rename_i ht;exact qE 2 true (.inr (.inr (.inl ⟨rfl,_,_,_,ht⟩))) I I
 ·rename_i ht;exact qE 3 false (.inr (.inr (.inr (.inl ⟨rfl,_,ht⟩)))) I I
 ·rename_i ht;exact qE 3 true (.inr (.inr (.inr (.inl ⟨rfl,_,ht⟩)))) I I
 ·rename_i ht;exact qE 4 false (.inr (.inr (.inr (.inr ⟨rfl,_,_,ht⟩)))) I I
 ·rename_i ht;exact qE 4 true (.inr (.inr (.inr (.inr ⟨rfl,_,_,ht⟩)))) I I
theorem PY{P:Program}{t:TypeId}(h:isU8 P t=true):P.underlying t=some (.int .u8):=by
 unfold isU8 at h;split at h
 ·assumption
 ·cases h
theorem a3M(c:Ctx P env J w m B al a){s d:TypeId}{x:Operand}(ho:o.op= .convert s d x)(aa:cop P o=some cl)(h:opx f (evalA env al) J cl=some (.val v af)):eX P B f J w m v af ((execOp a.eval o).run P w):=by
 simp only[cop,ho] at aa;simp only[execOp,ho];split at aa
 ·rename_i gv k ao hd;simp only[Option.map_eq_some_iff] at aa;obtain⟨bC,hx,rfl⟩:=aa;simp only[opx] at h;split at h
  ·cases h;rename_i au;exact e6 c ⟨_,a2q ao hd (c.aq hx au),.i _ _⟩
  ·rename_i au;split at h<;>cases h;obtain⟨n,h1,h2⟩:=a2r ao hd (c.aq hx au);exact e6 c ⟨_,h1,h2⟩
  ·cases h
 ·rename_i e ao hd;split at aa<;>try (cases aa;done)
  rename_i Iv;simp only[Option.map_eq_some_iff] at aa;obtain⟨bC,hx,rfl⟩:=aa;simp only[opx] at h;split at h<;>cases h;rename_i l au;exact oo (a3j c.rel f ao hd (PY Iv) (c.aq hx au))
 ·rename_i e ao hd;split at aa<;>try (cases aa;done)
  rename_i Iv;simp only[Option.map_eq_some_iff] at aa;obtain⟨bC,hx,rfl⟩:=aa;simp only[opx] at h;split at h<;>try (cases h;done)
  rename_i w_ au;split at h<;>try (cases h;done)
  rename_i xs a3N;split at h<;>cases h;rename_i l hl;obtain⟨h1,h2⟩:=a3k c.rel ao (PY Iv) hd (c.aq hx au) a3N hl;exact e6 c ⟨_,h1,.s _ h2⟩
 ·cases aa
theorem a3O(c:Ctx P env J w m B al a){t:TypeId}{x:Operand}(ho:o.op= .makeInterface t x)(aa:cop P o=some cl)(h:opx f (evalA env al) J cl=some (.val v af)):eX P B f J w m v af ((execOp a.eval o).run P w):=by
 simp only[cop,ho] at aa;simp only[execOp,ho];split at aa<;>try (cases aa;done)
 rename_i d a5 hd;simp only[Option.map_eq_some_iff] at aa;obtain⟨bC,hx,rfl⟩:=aa;simp only[opx] at h;split at h<;>cases h;rename_i au;exact e6 c ⟨_,a2s hd (λms e=>a5 ms e) _,.it (c.aq hx au)⟩
theorem a3P(c:Ctx P env J w m B al a){fn:Fn}{xs a8:Array Operand}(ho:o.op= .makeFunc fn xs a8)(aa:cop P o=some cl)(h:opx f (evalA env al) J cl=some (.val v af)):eX P B f J w m v af ((execOp a.eval o).run P w):=by
 simp only[cop,ho] at aa;simp only[execOp,ho];split at aa<;>try (cases aa;done)
 rename_i g;simp only[Option.bind_eq_bind,Option.bind_eq_some_iff,Option.pure_def,Option.some.injEq] at aa;obtain⟨bC,hx,eh,hy,rfl⟩:=aa;simp only[opx] at h;split at h<;>cases h;rename_i p q ar aS;have h1:=zf c.rel.u5 c.globs c.a_ hx ar;have h2:=zf c.rel.u5 c.globs c.a_ hy aS;have aN:=h1.1;have a4:=h2.1;simp at aN a4;refine e6 c ⟨_,rfl,.ct (by simpa using aN) (λi a b=>?_) (by simpa using a4) (λi a b=>?_)⟩
 ·have:=h1.2 i a (by simpa using b);simpa using this
 ·have:=h2.2 i a (by simpa using b);simpa using this
theorem a3Q(c:Ctx P env J w m B al a){t:TypeId}{r:Option Operand}(ho:o.op= .makeMap t r)(aa:cop P o=some cl)(h:opx f (evalA env al) J cl=some (.val v af)):eX P B f J w m v af ((execOp a.eval o).run P w):=by
 simp only[cop,ho] at aa;simp only[execOp,ho];have key:(Instr.makeMap t (r.map a.eval)).run P w= .ok (.map (some w.heap.size)) {w with heap:=w.heap.push (.map #[] 0)}/\cl= .mkMap:=by
  split at aa<;>cases aa
  ·exact⟨by simp[Instr.makeMap],rfl⟩
  ·rename_i ht;exact⟨by simp[Instr.makeMap,run_underlying ht,Act.eval,asInt,asIntOf],rfl⟩
 obtain⟨key,rfl⟩:=key;simp only[opx] at h;cases h;obtain⟨h1,h2⟩:=c.rel.alloc f {w with heap:=w.heap.push (.map #[] 0)} (.map [] 0) (.map #[] 0) I I I I I (.map I (λi h=>by simp at h));exact oo ⟨_,_,_,key,.mp (gz _ _ _),h1,h2⟩
end
end Go.Lyc
end
