/-
  The code of functions of the program, as the abstract executor reads it. No conditions: definitions and closed facts.
-/
import Derived.Test.YtdlohhnonefolaaGreatDoorEng9
set_option linter.all false
set_option maxRecDepth 100000
noncomputable section
namespace Go.Lyc.C
open Go.Lyc
abbrev m (d x : Nat) : AOper := ⟨some d, .mv (.t x), none, []⟩
abbrev ld (d x : Nat) : AOper := ⟨some d, .load none (.t x), none, []⟩
abbrev fa (d k x : Nat) : AOper := ⟨some d, .fieldAddr k none (.t x), none, []⟩
abbrev so (a x : Nat) : AOper := ⟨none, .store none (.t a) (.t x), none, []⟩
abbrev sa (n a x : Nat) : AOper := ⟨none, .store (some n) (.t a) (.t x), none, []⟩
abbrev mc (d : Nat) (v : AV) : AOper := ⟨some d, .mv (.c v), none, []⟩
abbrev cl (d f : Nat) (l : List AOpd) : AOper := ⟨some d, .call (.fn f) l, none, []⟩
abbrev o (d : Nat) (op : AOp) : AOper := ⟨some d, op, none, []⟩
abbrev u (op : AOp) : AOper := ⟨none, op, none, []⟩
abbrev gt (d c : Nat) (op : AOp) : AOper := ⟨some d, op, some (c, true), []⟩
abbrev gf (d c : Nat) (op : AOp) : AOper := ⟨some d, op, some (c, false), []⟩
abbrev sq (a b : ACode) : ACode := .seq a b
abbrev rg (l : List AOper) : ACode := .region l
abbrev cd (x : AOpd) (a b : ACode) : ACode := .cond x a b
abbrev bk (i : Nat) (a : ACode) : ACode := .block i a
instance(n:Nat):OfNat AOpd n:=⟨.t n⟩
abbrev k(n:Int):AOpd:=.c (.i .i64 n)
abbrev q(l:List AOper) (b:ACode):ACode:=.seq (.region l) b
abbrev l(d n x:Nat):AOper:=⟨some d,.load (some n) (.t x),none,[]⟩
abbrev K(n:Int):AV:=.i .i64 n
abbrev B(n:Int):AV:=.i .u8 n
abbrev E:AV:=.s []
abbrev T(l:List AV):AV:=.tl true (some 4) l
abbrev F(l:List AV):AV:=.tl false (some 4) l
abbrev badd(a b:AOpd):AOp:=.bin .add a b
abbrev beql(a b:AOpd):AOp:=.bin .eql a b
abbrev blss(a b:AOpd):AOp:=.bin .lss a b
abbrev bneq(a b:AOpd):AOp:=.bin .neq a b
abbrev bshr(a b:AOpd):AOp:=.bin .shr a b
abbrev s3:Option Nat:=some 3
abbrev s4:Option Nat:=some 4
abbrev s5:Option Nat:=some 5
abbrev s6:Option Nat:=some 6
abbrev s7:Option Nat:=some 7
abbrev z0:ACode:=(q [m 24 4,m 25 3,o 26 (.len 1 25),o 27 (blss 24 26)] (cd 27 .skip (.exit 2)))
abbrev z1:ACode:=(q [m 5 2,m 6 0,o 7 (.len 1 6),o 8 (blss 5 7)] (cd 8 .skip (.exit 0)))
abbrev z2:ACode:=(rg [m 28 4,o 29 (badd 28 (k 1)),m 4 29])
abbrev z3:ACode:=(rg [m 9 2,o 10 (badd 9 (k 1)),m 2 10])
abbrev z4:AOp:=(.alloc (.ag [E,(.i .u32 0),(B 0),(B 0),.nilsl]))
abbrev z5v:AV:=(.b false)
end Go.Lyc.C
namespace Go.Lyc.T
open Go.Lyc Go.Lyc.C
def c3:AFunc:=⟨1,99,[(2,none)],(some (q [mc 2 z5v] (q [m 13 0,cl 14 4 [13],m 12 14,o 15 (.extract 12 0),o 16 (.extract 12 1),o 3 z4,sa 5 3 15,m 4 16] (q [m 18 0,cl 19 5 [18],m 17 19,o 20 (.extract 17 0),o 21 (.extract 17 1),o 5 z4,sa 5 5 20,m 6 21] (sq (q [m 22 4,o 23 (beql 22 (k 0)),m 24 6,o 25 (.binB true 23 24),m 26 25,gf 27 26 (.mv 6),gf 28 26 (.not 27),gf 29 26 (.mv 28),gt 30 29 (.mv 4),gt 31 29 (bneq 30 (k 6)),gf 32 26 (.pick 29 31 (.c z5v)),o 33 (.pick 26 (.c (.b true)) 32),m 34 33,gf 35 34 (.load s5 3),gf 36 34 (.load s5 5),gf 37 34 (.call (.fn 6) [35,36]),gf 38 34 (.not 37),o 39 (.pick 34 (.c (.b true)) 38)] (cd 39 (q [mc 2 z5v] .ret) .skip)) (q [l 40 5 3,cl 41 7 [40]] (q [cl 42 8 [],m 7 42] (q [cl 43 9 [],m 8 43] (sq (q [m 44 7,o 45 (.len 1 44),m 46 8,o 47 (.len 1 46),o 48 (bneq 45 47)] (cd 48 (q [mc 2 z5v] .ret) .skip)) (sq (q [m 49 7,o 50 (.len 1 49),mc 51 (K 0)] (bk 0 (.loop (q [o 52 (blss 51 50)] (sq (cd 52 .skip (.exit 0)) (sq (bk 1 (q [m 53 51,m 9 53] (sq (sq (.draw [m 54 7,m 55 9,o 56 (.idxSl none 54 55),ld 57 56,m 58 8,m 59 9,o 60 (.idxSl s5 58 59),fa 61 0 60,ld 62 61,o 63 (bneq 57 62)]) (cd 63 (q [mc 2 z5v] .ret) .skip)) (q [m 65 7,m 66 9,o 67 (.idxSl none 65 66),ld 68 67,cl 69 4 [68],m 64 69,o 70 (.extract 64 0),o 71 (.extract 64 1),o 10 z4,sa 5 10 70,m 11 71] (sq (sq (.draw [m 72 11,o 73 (bneq 72 (k 0)),m 74 73,gf 75 74 (.load s5 10),gf 76 74 (.mv 8),gf 77 74 (.mv 9),gf 78 74 (.idxSl s5 76 77),gf 79 74 (.load s5 78),gf 80 74 (.call (.fn 6) [75,79]),gf 81 74 (.not 80),o 82 (.pick 74 (.c (.b true)) 81),m 83 82,gf 84 83 (.load s5 10),gf 85 83 (.call (.fn 10) [84]),gf 86 83 (.not 85),o 87 (.pick 83 (.c (.b true)) 86)]) (cd 87 (q [mc 2 z5v] .ret) .skip)) (rg [m 88 7,m 89 9,o 90 (.idxSl none 88 89),u (.store none 90 (.c (.s [111,118,101,114])))])))))) (rg [o 91 (badd 51 (k 1)),m 51 91]))))))) (q [cl 92 8 [],o 93 (.idxSl none 92 (k 0)),ld 94 93,o 95 (beql 94 (.c (.s [75,49]))),m 96 95,gt 97 96 (.call (.fn 11) []),o 98 (.pick 96 97 (.c z5v)),m 2 98] .ret)))))))))))⟩
def c7:AFunc:=⟨1,5,[],(some (q [o 1 (.box 0)] (rg [fa 2 4 1,ld 3 2,cl 4 22 [3]])))⟩
def c8:AFunc:=⟨0,2,[(0,none)],(some (q [mc 0 .nilsl] (q [o 1 (.buildSlice none 8 [E] [(0,(.c (.s [75,49]))),(1,(.c (.s [74]))),(2,(.c (.s [75,50]))),(3,(.c (.s [75]))),(4,(.c (.s [84]))),(5,(.c (.s [83,52]))),(6,(.c (.s [83,53]))),(7,(.c (.s [76])))]),m 0 1] .ret)))⟩
def c22:AFunc:=⟨1,35,[],(some (sq (q [mc 2 (K 0)] (bk 0 (.loop (sq z1 (sq (bk 1 (rg [m 11 0,m 12 2,o 13 (.idxSl s6 11 12),l 14 6 13,cl 15 43 [14]])) z3))))) (q [m 16 0,m 17 0,o 18 (.cap 17),m 19 0,o 20 (.len 1 19),o 21 (badd 20 (k 12)),o 22 (.minmax false 18 21),o 23 (.sliceSl s6 16 none (some 22) none),m 3 23] (q [mc 4 (K 0)] (bk 2 (.loop (sq z0 (sq (bk 3 (rg [m 30 3,m 31 4,m 32 4,cl 33 44 [(k 2),32],o 34 (.idxSl s6 30 31),sa 6 34 33])) z2))))))))⟩
def c43:AFunc:=⟨1,8,[],(some (q [o 1 (.box 0)] (q [fa 2 1 1,ld 3 2,cl 4 71 [3]] (rg [o 5 (.fieldAddr 2 s4 1),l 6 4 5,cl 7 72 [6]]))))⟩
def c44:AFunc:=⟨2,9,[(4,(some s6))],(some (q [o 4 (.alloc (.ag [E,.nilsl,(B 0),E,.nilsl,.nilsl]))] (q [m 5 0,m 6 1,cl 7 73 [5,6],o 8 (.build [E,.nilsl,(B 0),E,.nilsl,.nilsl] [(0,1,7)]),sa 6 4 8] .ret)))⟩
def c71:AFunc:=⟨1,35,[],(some (sq (q [mc 2 (K 0)] (bk 0 (.loop (sq z1 (sq (bk 1 (rg [m 11 0,m 12 2,o 13 (.idxSl s7 11 12),l 14 7 13,cl 15 94 [14]])) z3))))) (q [m 16 0,m 17 0,o 18 (.cap 17),m 19 0,o 20 (.len 1 19),o 21 (badd 20 (k 12)),o 22 (.minmax false 18 21),o 23 (.sliceSl s7 16 none (some 22) none),m 3 23] (q [mc 4 (K 0)] (bk 2 (.loop (sq z0 (sq (bk 3 (rg [m 30 3,m 31 4,m 32 4,cl 33 95 [(k 2),32],o 34 (.idxSl s7 30 31),sa 7 34 33])) z2))))))))⟩
def c72:AFunc:=⟨1,8,[],(some (q [o 1 (.box 0)] (q [fa 2 2 1,ld 3 2,cl 4 96 [3]] (rg [fa 5 3 1,ld 6 5,cl 7 97 [6]]))))⟩
def c73:AFunc:=⟨2,23,[(4,none)],(some (q [mc 4 E] (q [m 5 0,o 6 (.conv .u8 5),m 7 0,o 8 (bshr 7 (.c (.i .u64 8))),o 9 (.conv .u8 8),m 10 0,o 11 (bshr 10 (.c (.i .u64 16))),o 12 (.conv .u8 11),m 13 1,o 14 (.conv .u8 13),m 15 1,o 16 (bshr 15 (.c (.i .u64 8))),o 17 (.conv .u8 16),m 18 1,o 19 (bshr 18 (.c (.i .u64 16))),o 20 (.conv .u8 19),o 21 (.buildSlice none 8 [(B 0)] [(0,(.c (B 35))),(1,6),(2,9),(3,12),(4,(.c (B 47))),(5,14),(6,17),(7,20)]),o 22 (.bytesToStr 21),m 4 22] .ret)))⟩
def c94:AFunc:=⟨1,8,[],(some (q [o 1 (.box 0)] (q [fa 2 0 1,ld 3 2,cl 4 97 [3]] (rg [o 5 (.fieldAddr 1 s4 1),l 6 4 5,cl 7 72 [6]]))))⟩
def c95:AFunc:=⟨2,9,[(4,(some s7))],(some (q [o 4 (.alloc (.ag [.nilsl,(B 0),E,.nilsl,.nilsl,E,z5v]))] (q [m 5 0,m 6 1,cl 7 73 [5,6],o 8 (.build [.nilsl,(B 0),E,.nilsl,.nilsl,E,z5v] [(5,1,7)]),sa 7 4 8] .ret)))⟩
def c96:AFunc:=⟨1,35,[],(some (sq (q [mc 2 (K 0)] (bk 0 (.loop (sq z1 (sq (bk 1 (rg [m 11 0,m 12 2,o 13 (.idxSl s3 11 12),l 14 3 13,cl 15 134 [14]])) z3))))) (q [m 16 0,m 17 0,o 18 (.cap 17),m 19 0,o 20 (.len 1 19),o 21 (badd 20 (k 12)),o 22 (.minmax false 18 21),o 23 (.sliceSl s3 16 none (some 22) none),m 3 23] (q [mc 4 (K 0)] (bk 2 (.loop (sq z0 (sq (bk 3 (rg [m 30 3,m 31 4,m 32 4,cl 33 135 [(k 2),32],o 34 (.idxSl s3 30 31),sa 3 34 33])) z2))))))))⟩
def c97:AFunc:=⟨1,35,[],(some (sq (q [mc 2 (K 0)] (bk 0 (.loop (sq z1 (sq (bk 1 (rg [m 11 0,m 12 2,o 13 (.idxSl s4 11 12),l 14 4 13,cl 15 72 [14]])) z3))))) (q [m 16 0,m 17 0,o 18 (.cap 17),m 19 0,o 20 (.len 1 19),o 21 (badd 20 (k 12)),o 22 (.minmax false 18 21),o 23 (.sliceSl s4 16 none (some 22) none),m 3 23] (q [mc 4 (K 0)] (bk 2 (.loop (sq z0 (sq (bk 3 (rg [m 30 3,m 31 4,m 32 4,cl 33 136 [(k 2),32],o 34 (.idxSl s4 30 31),sa 4 34 33])) z2))))))))⟩
def c134:AFunc:=⟨1,5,[],(some (q [o 1 (.box 0)] (rg [fa 2 2 1,ld 3 2,cl 4 96 [3]])))⟩
def c135:AFunc:=⟨2,9,[(4,(some s3))],(some (q [o 4 (.alloc (.ag [z5v,E,.nilsl]))] (q [m 5 0,m 6 1,cl 7 73 [5,6],o 8 (.build [z5v,E,.nilsl] [(1,1,7)]),sa 3 4 8] .ret)))⟩
def c136:AFunc:=⟨2,9,[(4,(some s4))],(some (q [o 4 (.alloc (.ag [(B 0),E,.nilsl,.nilsl]))] (q [m 5 0,m 6 1,cl 7 73 [5,6],o 8 (.build [(B 0),E,.nilsl,.nilsl] [(1,1,7)]),sa 4 4 8] .ret)))⟩
end Go.Lyc.T
