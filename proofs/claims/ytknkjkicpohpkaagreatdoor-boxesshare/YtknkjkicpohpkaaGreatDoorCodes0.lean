/-
  The code of functions of the program, as the abstract executor reads it. No conditions: definitions and closed facts.
-/
import Derived.Test.YtknkjkicpohpkaaGreatDoorEng9
noncomputable section
namespace Go.Lyc.T
open Go.Lyc
set_option maxRecDepth 100000
def m (d x : Nat) : AOper := ⟨some d, .mv (.t x), none, []⟩
def o (d : Nat) (op : AOp) : AOper := ⟨some d, op, none, []⟩
def u (op : AOp) : AOper := ⟨none, op, none, []⟩
def c3 : AFunc := ⟨1, 114, [(2, none)], (some 
  (.seq (.region [o 2 (.mv (.c (.b false)))]) 
  (.seq (.region [o 13 (.call (.fn 4) [(.c (.s [75, 49]))]), m 12 13, o 14 (.extract (.t 12) 0), o 15 (.extract (.t 12) 1), o 3 (.alloc (.ag [(.s []), (.i .u32 0), (.i .u8 0), (.i .u8 0), .nilsl])), u (.store (some 5) (.t 3) (.t 14)), m 4 15]) 
  (.seq (.region [o 16 (.call (.fn 6) [(.c (.i .u8 2)), (.c .nilsl)]), o 17 (.call (.fn 5) [(.c (.i .i64 0)), (.c (.i .i64 0)), (.t 16)]), o 18 (.buildSlice (some 9) 1 [(.i .i64 0), (.i .i64 0), (.b false), (.i .u8 0), (.s []), .nilsl, .nilsl, (.s []), .nilsl] [(0, (.t 17))]), m 5 18]) 
  (.seq (.region [m 19 0, o 20 (.conv .i64 (.t 19)), o 21 (.bin .rem (.t 20) (.c (.i .i64 21))), m 6 21]) 
  (.seq (.region [o 7 (.mv (.c (.i .i64 1)))]) 
  (.seq 
  (.seq (.region [m 22 6, o 23 (.mv (.c (.i .i64 0)))]) (.block 0 (.loop 
  (.seq (.region [o 24 (.bin .lss (.t 23) (.t 22))]) 
  (.seq (.cond (.t 24) .skip (.exit 0)) 
  (.seq (.block 1 
  (.seq (.region [m 25 23, m 8 25]) 
  (.seq (.region [m 26 5, m 27 8, o 28 (.bin .sub (.t 27) (.c (.i .i64 1))), o 29 (.minmax true (.t 28) (.c (.i .i64 0))), o 30 (.idxSl (some 9) (.t 26) (.t 29)), o 31 (.fieldAddr 3 (some 4) (.t 30)), o 32 (.load (some 4) (.t 31)), m 33 8, o 34 (.bin .add (.t 33) (.c (.i .i64 1))), m 35 8, o 36 (.bin .add (.t 35) (.c (.i .i64 1))), o 37 (.call (.fn 7) [(.c (.i .i64 0)), (.t 32), (.c (.s [97, 110, 100, 69, 49])), (.t 34), (.t 36)]), o 9 (.alloc (.ag [(.i .i64 0), (.i .i64 0), (.b false), (.i .u8 0), (.s []), .nilsl, .nilsl, (.s []), .nilsl])), u (.store (some 9) (.t 9) (.t 37))]) 
  (.seq 
  (.seq (.region [m 38 8, o 39 (.bin .rem (.t 38) (.c (.i .i64 2))), o 40 (.bin .eql (.t 39) (.c (.i .i64 0)))]) (.cond (.t 40) 
  (.seq (.draw [m 41 5, m 42 8, o 43 (.idxSl (some 9) (.t 41) (.t 42)), o 44 (.fieldAddr 3 (some 4) (.t 43)), ⟨(some 45), .load (some 4) (.t 44), none, [15]⟩, m 46 5, m 47 8, o 48 (.idxSl (some 9) (.t 46) (.t 47)), o 49 (.fieldAddr 3 (some 4) (.t 48)), ⟨(some 50), .load (some 4) (.t 49), none, [15]⟩, o 51 (.buildSlice (some 4) 2 [(.i .u8 0), (.s []), .nilsl, .nilsl] [(0, (.t 45)), (1, (.t 50))]), m 53 8, o 54 (.bin .add (.t 53) (.c (.i .i64 1))), m 55 8, o 56 (.bin .add (.t 55) (.c (.i .i64 1))), o 52 (.call (.fn 6) [(.c (.i .u8 4)), (.t 51)]), o 57 (.call (.fn 7) [(.c (.i .i64 0)), (.t 52), (.c (.s [97, 110, 100, 73])), (.t 54), (.t 56)]), u (.store (some 9) (.t 9) (.t 57))]) 
  (.seq (.draw [o 58 (.fieldAddr 8 none (.t 9)), ⟨(some 59), .load none (.t 58), none, [7]⟩, o 60 (.fieldAddr 8 none (.t 9)), ⟨(some 61), .load none (.t 60), none, [7]⟩, o 62 (.idxSl (some 2) (.t 61) (.c (.i .i64 0))), ⟨(some 63), .load (some 2) (.t 62), none, [7]⟩, o 64 (.buildSlice (some 2) 1 [(.i .i64 0), (.i .i64 0)] [(0, (.t 63))]), o 65 (.append (some 2) 16 (.t 59) (.t 64)), o 66 (.fieldAddr 8 none (.t 9)), u (.store none (.t 66) (.t 65))]) (.region [m 67 7, o 68 (.bin .mul (.c (.i .i64 2)) (.t 67)), o 69 (.bin .add (.t 68) (.c (.i .i64 1))), m 7 69]))) (.region [m 70 7, o 71 (.bin .add (.t 70) (.c (.i .i64 1))), m 7 71]))) (.region [m 72 5, o 73 (.load (some 9) (.t 9)), o 74 (.buildSlice (some 9) 1 [(.i .i64 0), (.i .i64 0), (.b false), (.i .u8 0), (.s []), .nilsl, .nilsl, (.s []), .nilsl] [(0, (.t 73))]), o 75 (.append (some 9) 136 (.t 72) (.t 74)), m 5 75]))))) (.region [o 76 (.bin .add (.t 23) (.c (.i .i64 1))), m 23 76]))))))) 
  (.seq (.region [o 78 (.load (some 5) (.t 3)), m 79 5, o 80 (.call (.fn 8) [(.t 78), (.t 79)]), m 77 80, o 81 (.extract (.t 77) 0), o 82 (.extract (.t 77) 1), o 10 (.alloc (.ag [(.s []), (.i .u8 0), (.s []), .nilsl, .nilsl, (.i .i64 0), .nilsl, .nilsl])), u (.store (some 8) (.t 10) (.t 81)), m 11 82]) 
  (.seq 
  (.seq (.region [m 83 7, o 84 (.bin .gtr (.t 83) (.c (.i .i64 300)))]) (.cond (.t 84) 
  (.seq (.region [m 85 4, o 86 (.bin .eql (.t 85) (.c (.i .i64 0))), m 87 86, ⟨(some 88), .mv (.t 11), (some (87, true)), []⟩, ⟨(some 89), .bin .eql (.t 88) (.c (.i .i64 5)), (some (87, true)), []⟩, o 90 (.pick (.t 87) (.t 89) (.c (.b false))), m 91 90, ⟨(some 92), .fieldAddr 0 none (.t 10), (some (91, true)), []⟩, ⟨(some 93), .load none (.t 92), (some (91, true)), []⟩, ⟨(some 94), .bin .eql (.t 93) (.c (.s [])), (some (91, true)), []⟩, o 95 (.pick (.t 91) (.t 94) (.c (.b false))), m 96 95, ⟨(some 97), .call (.fn 9) [], (some (96, true)), []⟩, o 98 (.pick (.t 96) (.t 97) (.c (.b false))), m 2 98]) .ret) .skip)) 
  (.seq (.region [m 99 4, o 100 (.bin .eql (.t 99) (.c (.i .i64 0))), m 101 100, ⟨(some 102), .mv (.t 11), (some (101, true)), []⟩, ⟨(some 103), .bin .eql (.t 102) (.c (.i .i64 0)), (some (101, true)), []⟩, o 104 (.pick (.t 101) (.t 103) (.c (.b false))), m 105 104, ⟨(some 106), .load (some 8) (.t 10), (some (105, true)), []⟩, ⟨(some 107), .call (.fn 10) [(.t 106)], (some (105, true)), []⟩, ⟨(some 108), .mv (.t 7), (some (105, true)), []⟩, ⟨(some 109), .bin .eql (.t 107) (.t 108), (some (105, true)), []⟩, o 110 (.pick (.t 105) (.t 109) (.c (.b false))), m 111 110, ⟨(some 112), .call (.fn 9) [], (some (111, true)), []⟩, o 113 (.pick (.t 111) (.t 112) (.c (.b false))), m 2 113]) .ret))))))))))⟩
def c4 : AFunc := ⟨1, 77, [(2, (some (some 5))), (3, none)], (some 
  (.seq (.region [o 2 (.alloc (.ag [(.s []), (.i .u32 0), (.i .u8 0), (.i .u8 0), .nilsl])), o 3 (.mv (.c (.i .i64 0)))]) 
  (.seq (.region [o 6 (.call (.fn 11) []), o 7 (.call (.fn 12) []), m 4 6, m 5 7]) 
  (.seq 
  (.seq (.region [m 8 0]) (.block 0 
  (.seq (.region [o 10 (.bin .eql (.t 8) (.c (.s [75, 49]))), m 9 10]) (.cond (.t 9) 
  (.seq (.region [m 11 0, m 12 4, m 13 5, o 14 (.buildSlice none 2 [.nilsl] [(0, (.t 12)), (1, (.t 13))]), o 15 (.call (.fn 13) [(.t 11), (.c (.i .u8 1)), (.c (.i .u8 0)), (.t 14)]), u (.store (some 5) (.t 2) (.t 15)), o 3 (.mv (.c (.i .i64 0)))]) .ret) 
  (.seq (.region [o 17 (.bin .eql (.t 8) (.c (.s [74]))), m 16 17]) (.cond (.t 16) 
  (.seq (.region [m 18 0, m 19 4, o 20 (.buildSlice none 1 [.nilsl] [(0, (.t 19))]), o 21 (.call (.fn 13) [(.t 18), (.c (.i .u8 3)), (.c (.i .u8 0)), (.t 20)]), u (.store (some 5) (.t 2) (.t 21)), o 3 (.mv (.c (.i .i64 0)))]) .ret) 
  (.seq (.region [o 23 (.bin .eql (.t 8) (.c (.s [75, 50]))), m 22 23]) (.cond (.t 22) 
  (.seq (.region [m 24 0, m 25 4, m 26 5, o 27 (.call (.fn 14) []), o 28 (.buildSlice none 3 [.nilsl] [(0, (.t 25)), (1, (.t 26)), (2, (.t 27))]), o 29 (.call (.fn 13) [(.t 24), (.c (.i .u8 2)), (.c (.i .u8 0)), (.t 28)]), u (.store (some 5) (.t 2) (.t 29)), o 3 (.mv (.c (.i .i64 0)))]) .ret) 
  (.seq (.region [o 31 (.bin .eql (.t 8) (.c (.s [75]))), m 30 31]) (.cond (.t 30) 
  (.seq (.region [m 32 0, m 33 4, m 34 5, o 35 (.call (.fn 15) []), o 36 (.buildSlice none 3 [.nilsl] [(0, (.t 33)), (1, (.t 34)), (2, (.t 35))]), o 37 (.call (.fn 13) [(.t 32), (.c (.i .u8 4)), (.c (.i .u8 0)), (.t 36)]), u (.store (some 5) (.t 2) (.t 37)), o 3 (.mv (.c (.i .i64 0)))]) .ret) 
  (.seq (.region [o 39 (.bin .eql (.t 8) (.c (.s [84]))), m 38 39]) (.cond (.t 38) 
  (.seq (.region [m 40 0, m 41 4, m 42 5, o 43 (.call (.fn 15) []), o 44 (.call (.fn 16) []), o 45 (.buildSlice none 4 [.nilsl] [(0, (.t 41)), (1, (.t 42)), (2, (.t 43)), (3, (.t 44))]), o 46 (.call (.fn 13) [(.t 40), (.c (.i .u8 4)), (.c (.i .u8 1)), (.t 45)]), u (.store (some 5) (.t 2) (.t 46)), o 3 (.mv (.c (.i .i64 0)))]) .ret) 
  (.seq (.region [o 48 (.bin .eql (.t 8) (.c (.s [83, 52]))), m 47 48]) (.cond (.t 47) 
  (.seq (.region [m 49 0, m 50 4, m 51 5, o 52 (.call (.fn 15) []), o 53 (.call (.fn 16) []), o 54 (.call (.fn 17) []), o 55 (.buildSlice none 5 [.nilsl] [(0, (.t 50)), (1, (.t 51)), (2, (.t 52)), (3, (.t 53)), (4, (.t 54))]), o 56 (.call (.fn 13) [(.t 49), (.c (.i .u8 4)), (.c (.i .u8 3)), (.t 55)]), u (.store (some 5) (.t 2) (.t 56)), o 3 (.mv (.c (.i .i64 0)))]) .ret) 
  (.seq (.region [o 58 (.bin .eql (.t 8) (.c (.s [83, 53]))), m 57 58]) (.cond (.t 57) 
  (.seq (.region [m 59 0, m 60 4, m 61 5, o 62 (.call (.fn 15) []), o 63 (.call (.fn 16) []), o 64 (.call (.fn 17) []), o 65 (.call (.fn 18) []), o 66 (.buildSlice none 6 [.nilsl] [(0, (.t 60)), (1, (.t 61)), (2, (.t 62)), (3, (.t 63)), (4, (.t 64)), (5, (.t 65))]), o 67 (.call (.fn 13) [(.t 59), (.c (.i .u8 4)), (.c (.i .u8 7)), (.t 66)]), u (.store (some 5) (.t 2) (.t 67)), o 3 (.mv (.c (.i .i64 0)))]) .ret) 
  (.seq (.region [o 69 (.bin .eql (.t 8) (.c (.s [76]))), m 68 69]) (.cond (.t 68) 
  (.seq (.region [m 70 0, m 71 4, m 72 5, o 73 (.call (.fn 19) []), o 74 (.buildSlice none 3 [.nilsl] [(0, (.t 71)), (1, (.t 72)), (2, (.t 73))]), o 75 (.call (.fn 13) [(.t 70), (.c (.i .u8 5)), (.c (.i .u8 0)), (.t 74)]), u (.store (some 5) (.t 2) (.t 75)), o 3 (.mv (.c (.i .i64 0)))]) .ret) .skip)))))))))))))))))) 
  (.seq (.region [o 76 (.build [(.s []), (.i .u32 0), (.i .u8 0), (.i .u8 0), .nilsl] []), u (.store (some 5) (.t 2) (.t 76)), o 3 (.mv (.c (.i .i64 6)))]) .ret)))))⟩
def c5 : AFunc := ⟨3, 11, [(6, (some (some 9)))], (some 
  (.seq (.region [o 5 (.box (.t 2)), o 6 (.alloc (.ag [(.i .i64 0), (.i .i64 0), (.b false), (.i .u8 0), (.s []), .nilsl, .nilsl, (.s []), .nilsl]))]) 
  (.seq (.region [m 7 0, m 8 1, o 9 (.load (some 4) (.t 5)), o 10 (.build [(.i .i64 0), (.i .i64 0), (.b false), (.i .u8 0), (.s []), .nilsl, .nilsl, (.s []), .nilsl] [(0, 1, (.t 7)), (1, 1, (.t 8)), (2, 1, (.c (.b true))), (3, 4, (.t 9))]), u (.store (some 9) (.t 6) (.t 10))]) .ret)))⟩
def c6 : AFunc := ⟨2, 8, [(4, (some (some 4)))], (some 
  (.seq (.region [o 4 (.alloc (.ag [(.i .u8 0), (.s []), .nilsl, .nilsl]))]) 
  (.seq (.region [m 5 0, m 6 1, o 7 (.build [(.i .u8 0), (.s []), .nilsl, .nilsl] [(0, 1, (.t 5)), (3, 1, (.t 6))]), u (.store (some 4) (.t 4) (.t 7))]) .ret)))⟩
def c7 : AFunc := ⟨5, 19, [(10, (some (some 9)))], (some 
  (.seq (.region [o 6 (.box (.t 1)), o 10 (.alloc (.ag [(.i .i64 0), (.i .i64 0), (.b false), (.i .u8 0), (.s []), .nilsl, .nilsl, (.s []), .nilsl]))]) 
  (.seq (.region [m 11 0, o 12 (.load (some 4) (.t 6)), m 13 2, m 14 3, m 15 4, o 16 (.build [(.i .i64 0), (.i .i64 0)] [(0, 1, (.t 14)), (1, 1, (.t 15))]), o 17 (.buildSlice (some 2) 1 [(.i .i64 0), (.i .i64 0)] [(0, (.t 16))]), o 18 (.build [(.i .i64 0), (.i .i64 0), (.b false), (.i .u8 0), (.s []), .nilsl, .nilsl, (.s []), .nilsl] [(0, 1, (.t 11)), (3, 4, (.t 12)), (7, 1, (.t 13)), (8, 1, (.t 17))]), u (.store (some 9) (.t 10) (.t 18))]) .ret)))⟩
def c8 : AFunc := ⟨2, 54, [(4, (some (some 8))), (5, none)], (some 
  (.seq (.region [o 2 (.box (.t 0)), o 4 (.alloc (.ag [(.s []), (.i .u8 0), (.s []), .nilsl, .nilsl, (.i .i64 0), .nilsl, .nilsl])), o 5 (.mv (.c (.i .i64 0)))]) 
  (.seq 
  (.seq (.region [o 13 (.load (some 5) (.t 2)), m 14 1, o 15 (.call (.fn 20) [(.t 13), (.t 14)]), m 12 15, o 16 (.extract (.t 12) 0), o 17 (.extract (.t 12) 1), o 6 (.alloc (.ag [(.i .i64 0), (.i .u8 0), (.i .u8 0), (.i .i64 0), (.i .i64 0)])), u (.store (some 5) (.t 6) (.t 16)), m 7 17]) 
  (.seq (.region [m 18 7, o 19 (.bin .neq (.t 18) (.c (.i .i64 0)))]) (.cond (.t 19) 
  (.seq (.region [o 20 (.build [(.s []), (.i .u8 0), (.s []), .nilsl, .nilsl, (.i .i64 0), .nilsl, .nilsl] []), m 21 7, u (.store (some 8) (.t 4) (.t 20)), m 5 21]) .ret) .skip))) 
  (.seq (.region [o 22 (.mkMap), m 23 1, o 24 (.build [(.m none), .nilsl] [(0, 1, (.t 22)), (1, 1, (.t 23))]), o 25 (.box (.t 24)), m 8 25]) 
  (.seq 
  (.seq (.region [o 26 (.fieldAddr 4 none (.t 2)), o 27 (.load none (.t 26)), o 28 (.len 1 (.t 27)), o 29 (.mv (.c (.i .i64 0)))]) (.block 0 (.loop 
  (.seq (.region [o 30 (.bin .lss (.t 29) (.t 28))]) 
  (.seq (.cond (.t 30) .skip (.exit 0)) 
  (.seq (.block 1 
  (.seq (.region [o 31 (.idxSl (some 6) (.t 27) (.t 29)), o 32 (.load (some 6) (.t 31)), o 10 (.alloc (.ag [(.s []), .nilsl, (.i .u8 0), (.s []), .nilsl, .nilsl])), u (.store (some 6) (.t 10) (.t 32))]) (.draw [m 33 8, o 34 (.nilCheck (.t 33)), o 35 (.fieldAddr 0 none (.t 34)), o 36 (.load none (.t 35)), o 37 (.fieldAddr 0 none (.t 10)), o 38 (.load none (.t 37)), o 39 (.load (some 6) (.t 10)), u (.mapUpd (.inl 1) (.t 36) (.t 38) (.t 39))]))) (.region [o 40 (.bin .add (.t 29) (.c (.i .i64 1))), m 29 40]))))))) 
  (.seq 
  (.seq (.region [m 41 8, o 42 (.call (.fn 21) [(.t 41)]), o 43 (.not (.t 42))]) (.cond (.t 43) 
  (.seq (.region [o 44 (.build [(.s []), (.i .u8 0), (.s []), .nilsl, .nilsl, (.i .i64 0), .nilsl, .nilsl] []), u (.store (some 8) (.t 4) (.t 44)), o 5 (.mv (.c (.i .i64 5)))]) .ret) .skip)) 
  (.seq (.region [m 45 8, m 46 1, o 47 (.len 1 (.t 46)), o 48 (.call (.fn 22) [(.t 45), (.t 47)]), o 11 (.alloc (.ag [(.s []), (.i .u8 0), (.s []), .nilsl, .nilsl, (.i .i64 0), .nilsl, .nilsl])), u (.store (some 8) (.t 11) (.t 48))]) 
  (.seq 
  (.seq (.region [o 49 (.load (some 8) (.t 11)), o 50 (.call (.fn 23) [(.t 49)]), o 51 (.not (.t 50))]) (.cond (.t 51) 
  (.seq (.region [o 52 (.build [(.s []), (.i .u8 0), (.s []), .nilsl, .nilsl, (.i .i64 0), .nilsl, .nilsl] []), u (.store (some 8) (.t 4) (.t 52)), o 5 (.mv (.c (.i .i64 5)))]) .ret) .skip)) 
  (.seq (.region [o 53 (.load (some 8) (.t 11)), u (.store (some 8) (.t 4) (.t 53)), o 5 (.mv (.c (.i .i64 0)))]) .ret)))))))))⟩
def c9 : AFunc := ⟨0, 162, [(0, none)], (some 
  (.seq (.region [o 0 (.mv (.c (.b false)))]) 
  (.seq (.region [o 20 (.call (.fn 4) [(.c (.s [75, 49]))]), m 19 20, o 21 (.extract (.t 19) 0), o 22 (.extract (.t 19) 1), o 1 (.alloc (.ag [(.s []), (.i .u32 0), (.i .u8 0), (.i .u8 0), .nilsl])), u (.store (some 5) (.t 1) (.t 21)), m 2 22]) 
  (.seq (.region [o 24 (.call (.fn 4) [(.c (.s [75]))]), m 23 24, o 25 (.extract (.t 23) 0), o 26 (.extract (.t 23) 1), o 3 (.alloc (.ag [(.s []), (.i .u32 0), (.i .u8 0), (.i .u8 0), .nilsl])), u (.store (some 5) (.t 3) (.t 25)), m 4 26]) 
  (.seq (.region [o 27 (.call (.fn 24) [(.c (.s [80]))]), o 28 (.call (.fn 24) [(.c (.s [81]))]), o 5 (.alloc (.ag [(.i .u8 0), (.s []), .nilsl, .nilsl])), o 6 (.alloc (.ag [(.i .u8 0), (.s []), .nilsl, .nilsl])), u (.store (some 4) (.t 5) (.t 27)), u (.store (some 4) (.t 6) (.t 28))]) 
  (.seq (.region [o 29 (.load (some 4) (.t 6)), o 30 (.load (some 4) (.t 5)), o 31 (.buildSlice (some 4) 2 [(.i .u8 0), (.s []), .nilsl, .nilsl] [(0, (.t 29)), (1, (.t 30))]), o 32 (.call (.fn 6) [(.c (.i .u8 6)), (.t 31)]), o 7 (.alloc (.ag [(.i .u8 0), (.s []), .nilsl, .nilsl])), u (.store (some 4) (.t 7) (.t 32))]) 
  (.seq (.draw [⟨(some 33), .load (some 4) (.t 5), none, [12]⟩, ⟨(some 34), .load (some 4) (.t 7), none, [12]⟩, o 35 (.buildSlice (some 4) 2 [(.i .u8 0), (.s []), .nilsl, .nilsl] [(0, (.t 33)), (1, (.t 34))]), o 37 (.buildSlice none 1 [(.i .i64 0)] [(0, (.c (.i .i64 1)))]), o 38 (.buildSlice none 1 [.nilsl] [(0, (.t 37))]), ⟨(some 39), .load (some 4) (.t 7), none, [12, 13]⟩, o 40 (.buildSlice none 1 [(.i .i64 0)] [(0, (.c (.i .i64 0)))]), o 41 (.buildSlice none 1 [.nilsl] [(0, (.t 40))]), ⟨(some 42), .load (some 4) (.t 5), none, [12, 13]⟩, o 43 (.build [(.s []), (.i .u8 0), (.s []), .nilsl, .nilsl, (.i .i64 0), .nilsl, .nilsl] [(5, 1, (.c (.i .i64 1))), (1, 4, (.t 42))]), o 44 (.buildSlice (some 8) 1 [(.s []), (.i .u8 0), (.s []), .nilsl, .nilsl, (.i .i64 0), .nilsl, .nilsl] [(0, (.t 43))]), o 8 (.alloc (.ag [(.s []), (.i .u8 0), (.s []), .nilsl, .nilsl, (.i .i64 0), .nilsl, .nilsl])), o 36 (.call (.fn 6) [(.c (.i .u8 6)), (.t 35)]), o 45 (.call (.fn 25) [(.c (.s [105, 109, 112, 73])), (.t 39), (.t 41), (.t 44)]), o 46 (.buildSlice (some 8) 1 [(.s []), (.i .u8 0), (.s []), .nilsl, .nilsl, (.i .i64 0), .nilsl, .nilsl] [(0, (.t 45))]), o 47 (.call (.fn 25) [(.c (.s [105, 109, 112, 73])), (.t 36), (.t 38), (.t 46)]), u (.store (some 8) (.t 8) (.t 47))]) 
  (.seq (.region [o 49 (.load (some 5) (.t 1)), o 50 (.load (some 8) (.t 8)), o 51 (.call (.fn 26) [(.t 49), (.t 50)]), m 48 51, o 52 (.extract (.t 48) 0), o 53 (.extract (.t 48) 1), m 9 52, m 10 53]) 
  (.seq (.region [o 55 (.load (some 5) (.t 1)), m 56 9, o 57 (.call (.fn 8) [(.t 55), (.t 56)]), m 54 57, o 58 (.extract (.t 54) 0), o 59 (.extract (.t 54) 1), o 11 (.alloc (.ag [(.s []), (.i .u8 0), (.s []), .nilsl, .nilsl, (.i .i64 0), .nilsl, .nilsl])), u (.store (some 8) (.t 11) (.t 58)), m 12 59]) 
  (.seq (.region [o 60 (.load (some 4) (.t 5)), o 61 (.load (some 4) (.t 5)), o 62 (.buildSlice (some 4) 2 [(.i .u8 0), (.s []), .nilsl, .nilsl] [(0, (.t 60)), (1, (.t 61))]), o 63 (.call (.fn 6) [(.c (.i .u8 6)), (.t 62)]), o 13 (.alloc (.ag [(.i .u8 0), (.s []), .nilsl, .nilsl])), u (.store (some 4) (.t 13) (.t 63))]) 
  (.seq (.region [o 64 (.load (some 4) (.t 13)), o 65 (.buildSlice (some 4) 1 [(.i .u8 0), (.s []), .nilsl, .nilsl] [(0, (.t 64))]), o 66 (.call (.fn 6) [(.c (.i .u8 10)), (.t 65)]), o 14 (.alloc (.ag [(.i .u8 0), (.s []), .nilsl, .nilsl])), u (.store (some 4) (.t 14) (.t 66))]) 
  (.seq (.draw [⟨(some 68), .load (some 5) (.t 3), none, [9, 11, 12]⟩, ⟨(some 69), .load (some 4) (.t 14), none, [9, 11]⟩, o 70 (.buildSlice none 1 [.nilsl] [(0, (.c .nilsl))]), ⟨(some 71), .load (some 4) (.t 13), none, [9]⟩, o 72 (.buildSlice none 1 [(.i .i64 0)] [(0, (.c (.i .i64 5)))]), o 73 (.buildSlice none 1 [.nilsl] [(0, (.t 72))]), ⟨(some 74), .load (some 4) (.t 5), none, [9]⟩, o 75 (.build [(.s []), (.i .u8 0), (.s []), .nilsl, .nilsl, (.i .i64 0), .nilsl, .nilsl] [(5, 1, (.c (.i .i64 5))), (1, 4, (.t 74))]), o 76 (.buildSlice (some 8) 1 [(.s []), (.i .u8 0), (.s []), .nilsl, .nilsl, (.i .i64 0), .nilsl, .nilsl] [(0, (.t 75))]), o 77 (.call (.fn 25) [(.c (.s [105, 109, 112, 73])), (.t 71), (.t 73), (.t 76)]), o 78 (.buildSlice (some 8) 1 [(.s []), (.i .u8 0), (.s []), .nilsl, .nilsl, (.i .i64 0), .nilsl, .nilsl] [(0, (.t 77))]), o 79 (.call (.fn 25) [(.c (.s [98, 111, 120, 73, 48])), (.t 69), (.t 70), (.t 78)]), o 80 (.call (.fn 26) [(.t 68), (.t 79)]), m 67 80, o 81 (.extract (.t 67) 0), o 82 (.extract (.t 67) 1), m 15 81, m 16 82]) 
  (.seq (.draw [⟨(some 83), .load (some 4) (.t 5), none, [7]⟩, ⟨(some 85), .load (some 4) (.t 6), none, [7, 8]⟩, ⟨(some 87), .load (some 4) (.t 5), none, [7, 8, 9]⟩, ⟨(some 89), .load (some 4) (.t 7), none, [7, 8, 9, 10]⟩, ⟨(some 91), .load (some 4) (.t 5), none, [7, 8, 9, 10, 11]⟩, ⟨(some 92), .load (some 4) (.t 7), none, [7, 8, 9, 10, 11]⟩, o 93 (.buildSlice (some 4) 2 [(.i .u8 0), (.s []), .nilsl, .nilsl] [(0, (.t 91)), (1, (.t 92))]), o 84 (.call (.fn 5) [(.c (.i .i64 1)), (.c (.i .i64 1)), (.t 83)]), o 86 (.call (.fn 5) [(.c (.i .i64 2)), (.c (.i .i64 1)), (.t 85)]), o 88 (.call (.fn 7) [(.c (.i .i64 2)), (.t 87), (.c (.s [97, 103, 97, 105, 110])), (.c (.i .i64 1)), (.c (.i .i64 1))]), o 90 (.call (.fn 7) [(.c (.i .i64 1)), (.t 89), (.c (.s [105, 109, 112, 73])), (.c (.i .i64 2)), (.c (.i .i64 3))]), o 94 (.call (.fn 6) [(.c (.i .u8 6)), (.t 93)]), o 95 (.call (.fn 7) [(.c (.i .i64 0)), (.t 94), (.c (.s [105, 109, 112, 73])), (.c (.i .i64 1)), (.c (.i .i64 4))]), o 96 (.buildSlice (some 9) 5 [(.i .i64 0), (.i .i64 0), (.b false), (.i .u8 0), (.s []), .nilsl, .nilsl, (.s []), .nilsl] [(0, (.t 84)), (1, (.t 86)), (2, (.t 88)), (3, (.t 90)), (4, (.t 95))]), m 17 96]) 
  (.seq (.draw [o 97 (.load (some 4) (.t 5)), ⟨(some 99), .load (some 4) (.t 13), none, [4]⟩, ⟨(some 101), .load (some 4) (.t 14), none, [4, 5]⟩, o 98 (.call (.fn 5) [(.c (.i .i64 2)), (.c (.i .i64 2)), (.t 97)]), o 100 (.call (.fn 7) [(.c (.i .i64 1)), (.t 99), (.c (.s [105, 109, 112, 73])), (.c (.i .i64 1)), (.c (.i .i64 1))]), o 102 (.call (.fn 7) [(.c (.i .i64 0)), (.t 101), (.c (.s [98, 111, 120, 73, 48])), (.c (.i .i64 1)), (.c (.i .i64 2))]), o 103 (.buildSlice (some 9) 3 [(.i .i64 0), (.i .i64 0), (.b false), (.i .u8 0), (.s []), .nilsl, .nilsl, (.s []), .nilsl] [(0, (.t 98)), (1, (.t 100)), (2, (.t 102))]), m 18 103]) 
  (.seq (.region [m 104 2, o 105 (.bin .eql (.t 104) (.c (.i .i64 0))), m 106 105, ⟨(some 107), .mv (.t 4), (some (106, true)), []⟩, ⟨(some 108), .bin .eql (.t 107) (.c (.i .i64 0)), (some (106, true)), []⟩, o 109 (.pick (.t 106) (.t 108) (.c (.b false))), m 110 109, ⟨(some 111), .mv (.t 10), (some (110, true)), []⟩, ⟨(some 112), .bin .eql (.t 111) (.c (.i .i64 0)), (some (110, true)), []⟩, o 113 (.pick (.t 110) (.t 112) (.c (.b false))), m 114 113, ⟨(some 115), .mv (.t 12), (some (114, true)), []⟩, ⟨(some 116), .bin .eql (.t 115) (.c (.i .i64 0)), (some (114, true)), []⟩, o 117 (.pick (.t 114) (.t 116) (.c (.b false))), m 118 117, ⟨(some 119), .mv (.t 16), (some (118, true)), []⟩, ⟨(some 120), .bin .eql (.t 119) (.c (.i .i64 0)), (some (118, true)), []⟩, o 121 (.pick (.t 118) (.t 120) (.c (.b false))), m 122 121, ⟨(some 123), .mv (.t 9), (some (122, true)), []⟩, ⟨(some 124), .mv (.t 17), (some (122, true)), []⟩, ⟨(some 125), .call (.fn 27) [(.t 123), (.t 124)], (some (122, true)), []⟩, o 126 (.pick (.t 122) (.t 125) (.c (.b false))), m 127 126, ⟨(some 128), .mv (.t 15), (some (127, true)), []⟩, ⟨(some 129), .mv (.t 18), (some (127, true)), []⟩, ⟨(some 130), .call (.fn 27) [(.t 128), (.t 129)], (some (127, true)), []⟩, o 131 (.pick (.t 127) (.t 130) (.c (.b false))), m 132 131, ⟨(some 133), .fieldAddr 7 none (.t 11), (some (132, true)), []⟩, ⟨(some 134), .load none (.t 133), (some (132, true)), []⟩, ⟨(some 135), .idxSl none (.t 134) (.c (.i .i64 0)), (some (132, true)), []⟩, ⟨(some 136), .load none (.t 135), (some (132, true)), []⟩, ⟨(some 137), .buildSlice none 1 [(.i .i64 0)] [(0, (.c (.i .i64 1)))], (some (132, true)), []⟩, ⟨(some 138), .call (.fn 28) [(.t 136), (.t 137)], (some (132, true)), []⟩, o 139 (.pick (.t 132) (.t 138) (.c (.b false))), m 140 139, ⟨(some 141), .fieldAddr 6 none (.t 11), (some (140, true)), []⟩, ⟨(some 142), .load none (.t 141), (some (140, true)), []⟩, ⟨(some 143), .idxSl (some 8) (.t 142) (.c (.i .i64 0)), (some (140, true)), []⟩, ⟨(some 144), .fieldAddr 7 none (.t 143), (some (140, true)), []⟩, ⟨(some 145), .load none (.t 144), (some (140, true)), []⟩, ⟨(some 146), .idxSl none (.t 145) (.c (.i .i64 0)), (some (140, true)), []⟩, ⟨(some 147), .load none (.t 146), (some (140, true)), []⟩, ⟨(some 148), .buildSlice none 1 [(.i .i64 0)] [(0, (.c (.i .i64 2)))], (some (140, true)), []⟩, ⟨(some 149), .call (.fn 28) [(.t 147), (.t 148)], (some (140, true)), []⟩, o 150 (.pick (.t 140) (.t 149) (.c (.b false))), m 151 150, ⟨(some 152), .fieldAddr 6 none (.t 11), (some (151, true)), []⟩, ⟨(some 153), .load none (.t 152), (some (151, true)), []⟩, ⟨(some 154), .idxSl (some 8) (.t 153) (.c (.i .i64 0)), (some (151, true)), []⟩, ⟨(some 155), .fieldAddr 6 none (.t 154), (some (151, true)), []⟩, ⟨(some 156), .load none (.t 155), (some (151, true)), []⟩, ⟨(some 157), .idxSl (some 8) (.t 156) (.c (.i .i64 0)), (some (151, true)), []⟩, ⟨(some 158), .fieldAddr 5 none (.t 157), (some (151, true)), []⟩, ⟨(some 159), .load none (.t 158), (some (151, true)), []⟩, ⟨(some 160), .bin .eql (.t 159) (.c (.i .i64 1)), (some (151, true)), []⟩, o 161 (.pick (.t 151) (.t 160) (.c (.b false))), m 0 161]) .ret)))))))))))))))⟩
def c10 : AFunc := ⟨1, 19, [(2, none)], (some 
  (.seq (.region [o 1 (.box (.t 0)), o 2 (.mv (.c (.i .i64 0)))]) 
  (.seq (.region [o 3 (.mv (.c (.i .i64 1)))]) 
  (.seq 
  (.seq (.region [o 6 (.fieldAddr 6 none (.t 1)), o 7 (.load none (.t 6)), o 8 (.len 1 (.t 7)), o 9 (.mv (.c (.i .i64 0)))]) (.block 0 (.loop 
  (.seq (.region [o 10 (.bin .lss (.t 9) (.t 8))]) 
  (.seq (.cond (.t 10) .skip (.exit 0)) 
  (.seq (.block 1 
  (.seq (.region [o 11 (.idxSl (some 8) (.t 7) (.t 9)), o 12 (.load (some 8) (.t 11)), o 5 (.alloc (.ag [(.s []), (.i .u8 0), (.s []), .nilsl, .nilsl, (.i .i64 0), .nilsl, .nilsl])), u (.store (some 8) (.t 5) (.t 12))]) (.region [m 13 3, o 14 (.load (some 8) (.t 5)), o 15 (.call (.fn 10) [(.t 14)]), o 16 (.bin .add (.t 13) (.t 15)), m 3 16]))) (.region [o 17 (.bin .add (.t 9) (.c (.i .i64 1))), m 9 17]))))))) 
  (.seq (.region [m 18 3, m 2 18]) .ret)))))⟩
def c11 : AFunc := ⟨0, 18, [(0, none)], (some 
  (.seq (.region [o 0 (.mv (.c .nilsl))]) 
  (.seq (.region [o 2 (.build [(.s []), (.s []), (.s [])] [(0, 1, (.c (.s [97, 110, 100, 73]))), (1, 1, (.c (.s [63, 65, 59, 32, 63, 66]))), (2, 1, (.c (.s [63, 65, 32, 38, 32, 63, 66])))]), o 3 (.build [(.s []), (.s []), (.s [])] [(0, 1, (.c (.s [97, 110, 100, 69, 49]))), (1, 1, (.c (.s [63, 65, 32, 38, 32, 63, 66]))), (2, 1, (.c (.s [63, 65])))]), o 4 (.build [(.s []), (.s []), (.s [])] [(0, 1, (.c (.s [97, 110, 100, 69, 50]))), (1, 1, (.c (.s [63, 65, 32, 38, 32, 63, 66]))), (2, 1, (.c (.s [63, 66])))]), o 5 (.build [(.s []), (.s []), (.s [])] [(0, 1, (.c (.s [111, 114, 73, 49]))), (1, 1, (.c (.s [63, 65]))), (2, 1, (.c (.s [63, 65, 32, 124, 32, 63, 66])))]), o 6 (.build [(.s []), (.s []), (.s [])] [(0, 1, (.c (.s [111, 114, 73, 50]))), (1, 1, (.c (.s [63, 66]))), (2, 1, (.c (.s [63, 65, 32, 124, 32, 63, 66])))]), o 7 (.build [(.s []), (.s []), (.s [])] [(0, 1, (.c (.s [111, 114, 69]))), (1, 1, (.c (.s [63, 65, 32, 124, 32, 63, 66, 59, 32, 123, 63, 65, 125, 32, 63, 67, 59, 32, 123, 63, 66, 125, 32, 63, 67]))), (2, 1, (.c (.s [63, 67])))]), o 8 (.build [(.s []), (.s []), (.s [])] [(0, 1, (.c (.s [105, 109, 112, 73]))), (1, 1, (.c (.s [123, 63, 65, 125, 32, 63, 66]))), (2, 1, (.c (.s [63, 65, 32, 45, 62, 32, 63, 66])))]), o 9 (.build [(.s []), (.s []), (.s [])] [(0, 1, (.c (.s [105, 109, 112, 69]))), (1, 1, (.c (.s [63, 65, 32, 45, 62, 32, 63, 66, 59, 32, 63, 65]))), (2, 1, (.c (.s [63, 66])))]), o 10 (.build [(.s []), (.s []), (.s [])] [(0, 1, (.c (.s [110, 111, 116, 73]))), (1, 1, (.c (.s [123, 63, 65, 125, 32, 102, 97, 108, 115, 101]))), (2, 1, (.c (.s [126, 63, 65])))]), o 11 (.build [(.s []), (.s []), (.s [])] [(0, 1, (.c (.s [110, 111, 116, 69]))), (1, 1, (.c (.s [63, 65, 59, 32, 126, 63, 65]))), (2, 1, (.c (.s [102, 97, 108, 115, 101])))]), o 12 (.build [(.s []), (.s []), (.s [])] [(0, 1, (.c (.s [102, 97, 108, 115, 101, 69]))), (1, 1, (.c (.s [102, 97, 108, 115, 101]))), (2, 1, (.c (.s [63, 65])))]), o 13 (.build [(.s []), (.s []), (.s [])] [(0, 1, (.c (.s [105, 102, 102, 73]))), (1, 1, (.c (.s [123, 63, 65, 125, 32, 63, 66, 59, 32, 123, 63, 66, 125, 32, 63, 65]))), (2, 1, (.c (.s [63, 65, 32, 60, 45, 62, 32, 63, 66])))]), o 14 (.build [(.s []), (.s []), (.s [])] [(0, 1, (.c (.s [105, 102, 102, 69, 49]))), (1, 1, (.c (.s [63, 65, 32, 60, 45, 62, 32, 63, 66, 59, 32, 63, 65]))), (2, 1, (.c (.s [63, 66])))]), o 15 (.build [(.s []), (.s []), (.s [])] [(0, 1, (.c (.s [105, 102, 102, 69, 50]))), (1, 1, (.c (.s [63, 65, 32, 60, 45, 62, 32, 63, 66, 59, 32, 63, 66]))), (2, 1, (.c (.s [63, 65])))]), o 16 (.build [(.s []), (.s []), (.s []), (.s []), (.s []), (.s []), (.s []), (.s []), (.s []), (.s []), (.s []), (.s []), (.s []), (.s []), (.s []), (.s []), (.s []), (.s []), (.s []), (.s []), (.s []), (.s []), (.s []), (.s []), (.s []), (.s []), (.s []), (.s []), (.s []), (.s []), (.s []), (.s []), (.s []), (.s []), (.s []), (.s []), (.s []), (.s []), (.s []), (.s []), (.s []), (.s [])] [(0, 3, (.t 2)), (3, 3, (.t 3)), (6, 3, (.t 4)), (9, 3, (.t 5)), (12, 3, (.t 6)), (15, 3, (.t 7)), (18, 3, (.t 8)), (21, 3, (.t 9)), (24, 3, (.t 10)), (27, 3, (.t 11)), (30, 3, (.t 12)), (33, 3, (.t 13)), (36, 3, (.t 14)), (39, 3, (.t 15))]), o 1 (.alloc (.ag [(.s []), (.s []), (.s []), (.s []), (.s []), (.s []), (.s []), (.s []), (.s []), (.s []), (.s []), (.s []), (.s []), (.s []), (.s []), (.s []), (.s []), (.s []), (.s []), (.s []), (.s []), (.s []), (.s []), (.s []), (.s []), (.s []), (.s []), (.s []), (.s []), (.s []), (.s []), (.s []), (.s []), (.s []), (.s []), (.s []), (.s []), (.s []), (.s []), (.s []), (.s []), (.s [])])), u (.store (some 42) (.t 1) (.t 16))]) 
  (.seq (.region [o 17 (.sliceArr 14 (some 3) (.t 1) none none), m 0 17]) .ret))))⟩
def c12 : AFunc := ⟨0, 5, [(0, none)], (some 
  (.seq (.region [o 0 (.mv (.c .nilsl))]) 
  (.seq (.region [o 2 (.build [(.s []), (.s []), (.s [])] [(0, 1, (.c (.s [114, 97, 97]))), (1, 1, (.c (.s [123, 126, 63, 65, 125, 32, 102, 97, 108, 115, 101]))), (2, 1, (.c (.s [63, 65])))]), o 3 (.build [(.s []), (.s []), (.s [])] [(0, 3, (.t 2))]), o 1 (.alloc (.ag [(.s []), (.s []), (.s [])])), u (.store (some 3) (.t 1) (.t 3))]) 
  (.seq (.region [o 4 (.sliceArr 1 (some 3) (.t 1) none none), m 0 4]) .ret))))⟩
def c13 : AFunc := ⟨4, 60, [(8, (some (some 5)))], (some 
  (.seq (.region [o 8 (.alloc (.ag [(.s []), (.i .u32 0), (.i .u8 0), (.i .u8 0), .nilsl]))]) 
  (.seq (.region [m 16 0, m 17 1, o 18 (.call (.fn 29) [(.t 17)]), m 19 1, m 20 2, o 21 (.build [(.s []), (.i .u32 0), (.i .u8 0), (.i .u8 0), .nilsl] [(0, 1, (.t 16)), (1, 1, (.t 18)), (2, 1, (.t 19)), (3, 1, (.t 20))]), o 9 (.alloc (.ag [(.s []), (.i .u32 0), (.i .u8 0), (.i .u8 0), .nilsl])), u (.store (some 5) (.t 9) (.t 21))]) 
  (.seq 
  (.seq (.region [m 22 3, o 23 (.len 1 (.t 22)), o 24 (.mv (.c (.i .i64 0)))]) (.block 0 (.loop 
  (.seq (.region [o 25 (.bin .lss (.t 24) (.t 23))]) 
  (.seq (.cond (.t 25) .skip (.exit 0)) 
  (.seq (.block 1 
  (.seq (.region [o 26 (.idxSl none (.t 22) (.t 24)), o 27 (.load none (.t 26)), m 11 27]) 
  (.seq (.region [m 28 11, o 29 (.len 1 (.t 28)), o 30 (.mv (.c (.i .i64 0)))]) (.block 2 (.loop 
  (.seq (.region [o 31 (.bin .lss (.t 30) (.t 29))]) 
  (.seq (.cond (.t 31) .skip (.exit 2)) 
  (.seq (.block 3 
  (.seq (.region [o 32 (.idxSl (some 3) (.t 28) (.t 30)), o 33 (.load (some 3) (.t 32)), o 13 (.alloc (.ag [(.s []), (.s []), (.s [])])), u (.store (some 3) (.t 13) (.t 33))]) 
  (.seq (.draw [o 34 (.fieldAddr 0 none (.t 13)), ⟨(some 35), .load none (.t 34), none, [5, 7]⟩, o 36 (.fieldAddr 2 none (.t 13)), ⟨(some 37), .load none (.t 36), none, [5]⟩, o 14 (.alloc (.ag [(.s []), .nilsl, (.i .u8 0), (.s []), .nilsl, .nilsl])), o 38 (.call (.fn 30) [(.t 37)]), o 39 (.build [(.s []), .nilsl, (.i .u8 0), (.s []), .nilsl, .nilsl] [(0, 1, (.t 35)), (2, 4, (.t 38))]), u (.store (some 6) (.t 14) (.t 39))]) 
  (.seq 
  (.seq (.region [o 40 (.fieldAddr 1 none (.t 13)), o 41 (.load none (.t 40)), o 42 (.call (.fn 31) [(.t 41)])]) (.block 4 (.rangeFunc (.t 42) [43] (.region [m 15 43]) (.block 5 (.draw [o 44 (.fieldAddr 1 none (.t 14)), ⟨(some 45), .load none (.t 44), none, [5]⟩, m 46 15, o 47 (.call (.fn 32) [(.t 46)]), o 48 (.buildSlice (some 7) 1 [.nilsl, (.i .u8 0), (.s []), .nilsl, .nilsl, (.s []), (.b false)] [(0, (.t 47))]), o 49 (.append (some 7) 120 (.t 45) (.t 48)), o 50 (.fieldAddr 1 none (.t 14)), u (.store none (.t 50) (.t 49))]))))) (.region [o 51 (.fieldAddr 4 none (.t 9)), o 52 (.load none (.t 51)), o 53 (.load (some 6) (.t 14)), o 54 (.buildSlice (some 6) 1 [(.s []), .nilsl, (.i .u8 0), (.s []), .nilsl, .nilsl] [(0, (.t 53))]), o 55 (.append (some 6) 112 (.t 52) (.t 54)), o 56 (.fieldAddr 4 none (.t 9)), u (.store none (.t 56) (.t 55))]))))) (.region [o 57 (.bin .add (.t 30) (.c (.i .i64 1))), m 30 57]))))))))) (.region [o 58 (.bin .add (.t 24) (.c (.i .i64 1))), m 24 58]))))))) 
  (.seq (.region [o 59 (.load (some 5) (.t 9)), u (.store (some 5) (.t 8) (.t 59))]) .ret)))))⟩
def c15 : AFunc := ⟨0, 10, [(0, none)], (some 
  (.seq (.region [o 0 (.mv (.c .nilsl))]) 
  (.seq (.region [o 2 (.build [(.s []), (.s []), (.s [])] [(0, 1, (.c (.s [98, 111, 120, 73, 48]))), (1, 1, (.c (.s [99, 108, 111, 115, 101, 100, 32, 63, 68]))), (2, 1, (.c (.s [91, 93, 63, 68])))]), o 3 (.build [(.s []), (.s []), (.s [])] [(0, 1, (.c (.s [98, 111, 120, 73, 49]))), (1, 1, (.c (.s [91, 93, 63, 65, 59, 32, 99, 108, 111, 115, 101, 100, 32, 123, 63, 65, 125, 32, 63, 68]))), (2, 1, (.c (.s [91, 93, 63, 68])))]), o 4 (.build [(.s []), (.s []), (.s [])] [(0, 1, (.c (.s [98, 111, 120, 73, 50]))), (1, 1, (.c (.s [91, 93, 63, 65, 59, 32, 91, 93, 63, 66, 59, 32, 99, 108, 111, 115, 101, 100, 32, 123, 63, 65, 59, 32, 63, 66, 125, 32, 63, 68]))), (2, 1, (.c (.s [91, 93, 63, 68])))]), o 5 (.build [(.s []), (.s []), (.s [])] [(0, 1, (.c (.s [98, 111, 120, 73, 51]))), (1, 1, (.c (.s [91, 93, 63, 65, 59, 32, 91, 93, 63, 66, 59, 32, 91, 93, 63, 67, 59, 32, 99, 108, 111, 115, 101, 100, 32, 123, 63, 65, 59, 32, 63, 66, 59, 32, 63, 67, 125, 32, 63, 68]))), (2, 1, (.c (.s [91, 93, 63, 68])))]), o 6 (.build [(.s []), (.s []), (.s [])] [(0, 1, (.c (.s [100, 105, 97, 73]))), (1, 1, (.c (.s [126, 91, 93, 126, 63, 65]))), (2, 1, (.c (.s [60, 62, 63, 65])))]), o 7 (.build [(.s []), (.s []), (.s [])] [(0, 1, (.c (.s [100, 105, 97, 69]))), (1, 1, (.c (.s [60, 62, 63, 65]))), (2, 1, (.c (.s [126, 91, 93, 126, 63, 65])))]), o 8 (.build [(.s []), (.s []), (.s []), (.s []), (.s []), (.s []), (.s []), (.s []), (.s []), (.s []), (.s []), (.s []), (.s []), (.s []), (.s []), (.s []), (.s []), (.s [])] [(0, 3, (.t 2)), (3, 3, (.t 3)), (6, 3, (.t 4)), (9, 3, (.t 5)), (12, 3, (.t 6)), (15, 3, (.t 7))]), o 1 (.alloc (.ag [(.s []), (.s []), (.s []), (.s []), (.s []), (.s []), (.s []), (.s []), (.s []), (.s []), (.s []), (.s []), (.s []), (.s []), (.s []), (.s []), (.s []), (.s [])])), u (.store (some 18) (.t 1) (.t 8))]) 
  (.seq (.region [o 9 (.sliceArr 6 (some 3) (.t 1) none none), m 0 9]) .ret))))⟩
def c20 : AFunc := ⟨2, 59, [(4, (some (some 5))), (5, none)], (some 
  (.seq (.region [o 2 (.box (.t 0)), o 4 (.alloc (.ag [(.i .i64 0), (.i .u8 0), (.i .u8 0), (.i .i64 0), (.i .i64 0)])), o 5 (.mv (.c (.i .i64 0)))]) 
  (.seq 
  (.seq (.region [o 11 (.load (some 5) (.t 2)), o 12 (.call (.fn 33) [(.t 11)]), o 13 (.not (.t 12))]) (.cond (.t 13) 
  (.seq (.region [o 14 (.build [(.i .i64 0), (.i .u8 0), (.i .u8 0), (.i .i64 0), (.i .i64 0)] []), u (.store (some 5) (.t 4) (.t 14)), o 5 (.mv (.c (.i .i64 2)))]) .ret) .skip)) 
  (.seq (.region [m 16 1, o 17 (.call (.fn 34) [(.t 16)]), m 15 17, o 18 (.extract (.t 15) 0), o 19 (.extract (.t 15) 1), m 6 18, m 7 19]) 
  (.seq 
  (.seq (.region [m 20 7, o 21 (.bin .eql (.t 20) (.c (.i .i64 5)))]) (.cond (.t 21) 
  (.seq (.region [o 22 (.build [(.i .i64 0), (.i .u8 0), (.i .u8 0), (.i .i64 0), (.i .i64 0)] [(1, 1, (.c (.i .u8 1)))]), u (.store (some 5) (.t 4) (.t 22)), o 5 (.mv (.c (.i .i64 180)))]) .ret) .skip)) 
  (.seq 
  (.seq (.region [m 23 7, o 24 (.bin .neq (.t 23) (.c (.i .i64 0)))]) (.cond (.t 24) 
  (.seq (.region [m 25 1, o 26 (.call (.fn 35) [(.t 25)]), o 27 (.build [(.i .i64 0), (.i .u8 0), (.i .u8 0), (.i .i64 0), (.i .i64 0)] [(0, 1, (.t 26)), (1, 1, (.c (.i .u8 2)))]), u (.store (some 5) (.t 4) (.t 27)), o 5 (.mv (.c (.i .i64 180)))]) .ret) .skip)) 
  (.seq 
  (.seq (.region [o 8 (.mv (.c (.i .i64 1)))]) (.block 0 (.loop 
  (.seq 
  (.seq (.region [m 28 8, m 29 1, o 30 (.len 1 (.t 29)), o 31 (.bin .leq (.t 28) (.t 30))]) (.cond (.t 31) .skip (.exit 0))) 
  (.seq (.block 1 
  (.seq (.region [m 35 6, o 36 (.load (some 5) (.t 2)), m 37 8, o 38 (.call (.fn 36) [(.t 35), (.t 36), (.t 37)]), m 34 38, o 39 (.extract (.t 34) 0), o 40 (.extract (.t 34) 1), o 10 (.alloc (.ag [(.i .u8 0), (.i .i64 0), (.i .i64 0)])), m 9 39, u (.store (some 3) (.t 10) (.t 40))]) 
  (.seq (.region [m 41 9, o 42 (.bin .neq (.t 41) (.c (.i .u8 0)))]) (.cond (.t 42) 
  (.seq (.region [m 43 8, m 44 9, o 45 (.load (some 3) (.t 10)), o 46 (.build [(.i .i64 0), (.i .u8 0), (.i .u8 0), (.i .i64 0), (.i .i64 0)] [(0, 1, (.t 43)), (1, 1, (.t 44)), (2, 3, (.t 45))]), u (.store (some 5) (.t 4) (.t 46)), o 5 (.mv (.c (.i .i64 180)))]) .ret) .skip)))) (.region [m 32 8, o 33 (.bin .add (.t 32) (.c (.i .i64 1))), m 8 33])))))) 
  (.seq 
  (.seq (.region [m 47 1, m 48 1, o 49 (.len 1 (.t 48)), o 50 (.bin .sub (.t 49) (.c (.i .i64 1))), o 51 (.idxSl (some 9) (.t 47) (.t 50)), o 52 (.fieldAddr 0 none (.t 51)), o 53 (.load none (.t 52)), o 54 (.bin .neq (.t 53) (.c (.i .i64 0)))]) (.cond (.t 54) 
  (.seq (.region [m 55 1, o 56 (.len 1 (.t 55)), o 57 (.build [(.i .i64 0), (.i .u8 0), (.i .u8 0), (.i .i64 0), (.i .i64 0)] [(0, 1, (.t 56)), (1, 1, (.c (.i .u8 7)))]), u (.store (some 5) (.t 4) (.t 57)), o 5 (.mv (.c (.i .i64 180)))]) .ret) .skip)) 
  (.seq (.region [o 58 (.build [(.i .i64 0), (.i .u8 0), (.i .u8 0), (.i .i64 0), (.i .i64 0)] []), u (.store (some 5) (.t 4) (.t 58)), o 5 (.mv (.c (.i .i64 0)))]) .ret)))))))))⟩
def c21 : AFunc := ⟨1, 123, [(2, none)], (some 
  (.seq (.region [o 2 (.mv (.c (.b false)))]) 
  (.seq (.region [m 10 0, o 11 (.nilCheck (.t 10)), o 12 (.fieldAddr 1 none (.t 11)), o 13 (.load none (.t 12)), o 14 (.len 1 (.t 13)), o 15 (.bin .add (.t 14) (.c (.i .i64 1))), o 16 (.mkSlice none 8 [(.i .i64 0)] (.t 15) (.t 15)), m 3 16]) 
  (.seq (.region [m 17 0, o 18 (.nilCheck (.t 17)), o 19 (.fieldAddr 1 none (.t 18)), o 20 (.load none (.t 19)), o 21 (.len 1 (.t 20)), o 22 (.bin .add (.t 21) (.c (.i .i64 1))), o 23 (.mkSlice none 8 [(.i .i64 0)] (.t 22) (.t 22)), m 4 23]) 
  (.seq 
  (.seq (.region [m 24 0, o 25 (.nilCheck (.t 24)), o 26 (.fieldAddr 1 none (.t 25)), o 27 (.load none (.t 26)), o 28 (.len 1 (.t 27)), o 29 (.mv (.c (.i .i64 0)))]) (.block 0 (.loop 
  (.seq (.region [o 30 (.bin .lss (.t 29) (.t 28))]) 
  (.seq (.cond (.t 30) .skip (.exit 0)) 
  (.seq (.block 1 
  (.seq (.region [m 31 29, o 32 (.idxSl (some 9) (.t 27) (.t 29)), o 33 (.load (some 9) (.t 32)), o 6 (.alloc (.ag [(.i .i64 0), (.i .i64 0), (.b false), (.i .u8 0), (.s []), .nilsl, .nilsl, (.s []), .nilsl])), m 5 31, u (.store (some 9) (.t 6) (.t 33))]) 
  (.seq (.region [m 34 3, m 35 5, o 36 (.bin .add (.t 35) (.c (.i .i64 1))), o 37 (.idxSl none (.t 34) (.t 36)), u (.store none (.t 37) (.c (.i .i64 1)))]) 
  (.seq 
  (.seq (.region [o 38 (.fieldAddr 7 none (.t 6)), o 39 (.load none (.t 38)), o 40 (.bin .eql (.t 39) (.c (.s [97, 103, 97, 105, 110])))]) (.cond (.t 40) 
  (.seq (.region [o 41 (.fieldAddr 8 none (.t 6)), o 42 (.load none (.t 41)), o 43 (.idxSl (some 2) (.t 42) (.c (.i .i64 0))), o 44 (.fieldAddr 1 none (.t 43)), o 45 (.load none (.t 44)), m 7 45]) 
  (.seq (.draw [m 46 3, m 47 5, o 48 (.bin .add (.t 47) (.c (.i .i64 1))), m 49 4, m 50 5, o 51 (.bin .add (.t 50) (.c (.i .i64 1))), m 52 3, m 53 7, o 54 (.idxSl none (.t 52) (.t 53)), o 55 (.load none (.t 54)), m 56 4, m 57 7, o 58 (.idxSl none (.t 56) (.t 57)), o 59 (.load none (.t 58)), o 60 (.idxSl none (.t 46) (.t 48)), u (.store none (.t 60) (.t 55)), o 61 (.idxSl none (.t 49) (.t 51)), u (.store none (.t 61) (.t 59))]) (.exit 1))) .skip)) 
  (.seq (.region [o 62 (.fieldAddr 8 none (.t 6)), o 63 (.load none (.t 62)), o 64 (.len 1 (.t 63)), o 65 (.mv (.c (.i .i64 0)))]) (.block 2 (.loop 
  (.seq (.region [o 66 (.bin .lss (.t 65) (.t 64))]) 
  (.seq (.cond (.t 66) .skip (.exit 2)) 
  (.seq (.block 3 
  (.seq (.region [o 67 (.idxSl (some 2) (.t 63) (.t 65)), o 68 (.load (some 2) (.t 67)), o 9 (.alloc (.ag [(.i .i64 0), (.i .i64 0)])), u (.store (some 2) (.t 9) (.t 68))]) 
  (.seq (.draw [m 69 3, m 70 5, o 71 (.bin .add (.t 70) (.c (.i .i64 1))), m 72 3, m 73 5, o 74 (.bin .add (.t 73) (.c (.i .i64 1))), o 75 (.idxSl none (.t 72) (.t 74)), o 76 (.load none (.t 75)), m 77 3, o 78 (.fieldAddr 1 none (.t 9)), o 79 (.load none (.t 78)), o 80 (.idxSl none (.t 77) (.t 79)), o 81 (.load none (.t 80)), o 82 (.bin .add (.t 76) (.t 81)), o 83 (.minmax false (.t 82) (.c (.i .i64 301))), o 84 (.idxSl none (.t 69) (.t 71)), u (.store none (.t 84) (.t 83))]) (.draw [m 85 4, m 86 5, o 87 (.bin .add (.t 86) (.c (.i .i64 1))), m 88 4, m 89 5, o 90 (.bin .add (.t 89) (.c (.i .i64 1))), o 91 (.idxSl none (.t 88) (.t 90)), o 92 (.load none (.t 91)), m 93 4, o 94 (.fieldAddr 1 none (.t 9)), o 95 (.load none (.t 94)), o 96 (.idxSl none (.t 93) (.t 95)), o 97 (.load none (.t 96)), o 98 (.bin .add (.t 97) (.c (.i .i64 1))), o 99 (.minmax true (.t 92) (.t 98)), o 100 (.idxSl none (.t 85) (.t 87)), u (.store none (.t 100) (.t 99))])))) (.region [o 101 (.bin .add (.t 65) (.c (.i .i64 1))), m 65 101]))))))))))) (.region [o 102 (.bin .add (.t 29) (.c (.i .i64 1))), m 29 102]))))))) 
  (.seq (.region [m 103 3, m 104 0, o 105 (.nilCheck (.t 104)), o 106 (.fieldAddr 1 none (.t 105)), o 107 (.load none (.t 106)), o 108 (.len 1 (.t 107)), o 109 (.idxSl none (.t 103) (.t 108)), o 110 (.load none (.t 109)), o 111 (.bin .leq (.t 110) (.c (.i .i64 300))), m 112 111, ⟨(some 113), .mv (.t 4), (some (112, true)), []⟩, ⟨(some 114), .mv (.t 0), (some (112, true)), []⟩, ⟨(some 115), .nilCheck (.t 114), (some (112, true)), []⟩, ⟨(some 116), .fieldAddr 1 none (.t 115), (some (112, true)), []⟩, ⟨(some 117), .load none (.t 116), (some (112, true)), []⟩, ⟨(some 118), .len 1 (.t 117), (some (112, true)), []⟩, ⟨(some 119), .idxSl none (.t 113) (.t 118), (some (112, true)), []⟩, ⟨(some 120), .load none (.t 119), (some (112, true)), []⟩, ⟨(some 121), .bin .leq (.t 120) (.c (.i .i64 40)), (some (112, true)), []⟩, o 122 (.pick (.t 112) (.t 121) (.c (.b false))), m 2 122]) .ret))))))⟩
def c22 : AFunc := ⟨2, 84, [(4, (some (some 8)))], (some 
  (.seq (.region [o 4 (.alloc (.ag [(.s []), (.i .u8 0), (.s []), .nilsl, .nilsl, (.i .i64 0), .nilsl, .nilsl]))]) 
  (.seq (.region [m 10 0, o 11 (.nilCheck (.t 10)), o 12 (.fieldAddr 1 none (.t 11)), o 13 (.load none (.t 12)), m 14 1, o 15 (.bin .sub (.t 14) (.c (.i .i64 1))), o 16 (.idxSl (some 9) (.t 13) (.t 15)), o 17 (.load (some 9) (.t 16)), o 5 (.alloc (.ag [(.i .i64 0), (.i .i64 0), (.b false), (.i .u8 0), (.s []), .nilsl, .nilsl, (.s []), .nilsl])), u (.store (some 9) (.t 5) (.t 17))]) 
  (.seq 
  (.seq (.region [o 18 (.fieldAddr 2 none (.t 5)), o 19 (.load none (.t 18))]) (.cond (.t 19) 
  (.seq (.region [o 20 (.fieldAddr 3 (some 4) (.t 5)), o 21 (.load (some 4) (.t 20)), o 22 (.call (.fn 37) [(.t 21)]), m 23 1, o 24 (.build [(.s []), (.i .u8 0), (.s []), .nilsl, .nilsl, (.i .i64 0), .nilsl, .nilsl] [(1, 4, (.t 22)), (5, 1, (.t 23))]), u (.store (some 8) (.t 4) (.t 24))]) .ret) .skip)) 
  (.seq 
  (.seq (.region [o 25 (.fieldAddr 7 none (.t 5)), o 26 (.load none (.t 25)), o 27 (.bin .eql (.t 26) (.c (.s [97, 103, 97, 105, 110])))]) (.cond (.t 27) 
  (.seq (.region [m 28 0, o 29 (.fieldAddr 8 none (.t 5)), o 30 (.load none (.t 29)), o 31 (.idxSl (some 2) (.t 30) (.c (.i .i64 0))), o 32 (.fieldAddr 1 none (.t 31)), o 33 (.load none (.t 32)), o 34 (.call (.fn 22) [(.t 28), (.t 33)]), u (.store (some 8) (.t 4) (.t 34))]) .ret) .skip)) 
  (.seq (.draw [o 35 (.fieldAddr 7 none (.t 5)), ⟨(some 36), .load none (.t 35), none, [5, 7]⟩, o 37 (.fieldAddr 3 (some 4) (.t 5)), ⟨(some 38), .load (some 4) (.t 37), none, [5]⟩, o 6 (.alloc (.ag [(.s []), (.i .u8 0), (.s []), .nilsl, .nilsl, (.i .i64 0), .nilsl, .nilsl])), o 39 (.call (.fn 37) [(.t 38)]), o 40 (.build [(.s []), (.i .u8 0), (.s []), .nilsl, .nilsl, (.i .i64 0), .nilsl, .nilsl] [(0, 1, (.t 36)), (1, 4, (.t 39))]), u (.store (some 8) (.t 6) (.t 40))]) 
  (.seq 
  (.seq (.region [o 41 (.fieldAddr 8 none (.t 5)), o 42 (.load none (.t 41)), o 43 (.len 1 (.t 42)), o 44 (.mv (.c (.i .i64 0)))]) (.block 0 (.loop 
  (.seq (.region [o 45 (.bin .lss (.t 44) (.t 43))]) 
  (.seq (.cond (.t 45) .skip (.exit 0)) 
  (.seq (.block 1 
  (.seq (.region [m 46 44, o 47 (.idxSl (some 2) (.t 42) (.t 44)), o 48 (.load (some 2) (.t 47)), o 8 (.alloc (.ag [(.i .i64 0), (.i .i64 0)])), m 7 46, u (.store (some 2) (.t 8) (.t 48))]) 
  (.seq (.region [o 9 (.mv (.c .nilsl))]) 
  (.seq 
  (.seq (.draw [m 49 0, o 50 (.nilCheck (.t 49)), o 51 (.fieldAddr 0 none (.t 50)), o 52 (.load none (.t 51)), o 53 (.fieldAddr 7 none (.t 5)), o 54 (.load none (.t 53)), o 55 (.lookup (.inl 1) (.t 52) (.t 54) (.ag [(.s []), .nilsl, (.i .u8 0), (.s []), .nilsl, .nilsl]) false), o 56 (.field 1 none (.t 55)), m 57 7, o 58 (.idxSl (some 7) (.t 56) (.t 57)), o 59 (.load (some 7) (.t 58)), o 60 (.call (.fn 38) [(.t 59)])]) (.cond (.t 60) (.region [m 61 0, o 62 (.load (some 2) (.t 8)), o 63 (.fieldAddr 0 none (.t 5)), o 64 (.load none (.t 63)), o 65 (.bin .add (.t 64) (.c (.i .i64 1))), o 66 (.call (.fn 39) [(.t 61), (.t 62), (.t 65)]), m 9 66]) .skip)) 
  (.seq (.draw [o 67 (.fieldAddr 6 none (.t 6)), ⟨(some 68), .load none (.t 67), none, [7]⟩, m 69 0, o 70 (.fieldAddr 1 none (.t 8)), o 71 (.load none (.t 70)), o 72 (.call (.fn 22) [(.t 69), (.t 71)]), o 73 (.buildSlice (some 8) 1 [(.s []), (.i .u8 0), (.s []), .nilsl, .nilsl, (.i .i64 0), .nilsl, .nilsl] [(0, (.t 72))]), o 74 (.append (some 8) 144 (.t 68) (.t 73)), o 75 (.fieldAddr 6 none (.t 6)), u (.store none (.t 75) (.t 74))]) (.region [o 76 (.fieldAddr 7 none (.t 6)), o 77 (.load none (.t 76)), m 78 9, o 79 (.buildSlice none 1 [.nilsl] [(0, (.t 78))]), o 80 (.append none 24 (.t 77) (.t 79)), o 81 (.fieldAddr 7 none (.t 6)), u (.store none (.t 81) (.t 80))])))))) (.region [o 82 (.bin .add (.t 44) (.c (.i .i64 1))), m 44 82]))))))) 
  (.seq (.region [o 83 (.load (some 8) (.t 6)), u (.store (some 8) (.t 4) (.t 83))]) .ret))))))))⟩
def c23 : AFunc := ⟨1, 26, [(2, (some none))], (some 
  (.seq (.region [o 1 (.box (.t 0)), o 2 (.alloc (.b false))]) 
  (.seq (.region [o 3 (.alloc (.i .i64 0)), u (.store none (.t 3) (.c (.i .i64 0)))]) 
  (.seq 
  (.seq (.region [o 6 (.call (.fn 40) [(.t 1)])]) (.block 0 (.rangeFunc (.t 6) [7, 8] 
  (.seq (.region [m 4 7]) (.region [m 5 8])) (.block 1 
  (.seq (.region [o 9 (.load none (.t 3)), o 10 (.bin .add (.t 9) (.c (.i .i64 1))), u (.store none (.t 3) (.t 10))]) 
  (.seq (.region [o 11 (.load none (.t 3)), o 12 (.bin .gtr (.t 11) (.c (.i .i64 300))), m 13 12, ⟨(some 14), .mv (.t 4), (some (13, false)), []⟩, ⟨(some 15), .len 1 (.t 14), (some (13, false)), []⟩, ⟨(some 16), .bin .gtr (.t 15) (.c (.i .i64 40)), (some (13, false)), []⟩, o 17 (.pick (.t 13) (.c (.b true)) (.t 16)), m 18 17, ⟨(some 19), .mv (.t 5), (some (18, false)), []⟩, ⟨(some 20), .nilCheck (.t 19), (some (18, false)), []⟩, ⟨(some 21), .fieldAddr 6 none (.t 20), (some (18, false)), []⟩, ⟨(some 22), .load none (.t 21), (some (18, false)), []⟩, ⟨(some 23), .len 1 (.t 22), (some (18, false)), []⟩, ⟨(some 24), .bin .gtr (.t 23) (.c (.i .i64 4)), (some (18, false)), []⟩, o 25 (.pick (.t 18) (.c (.b true)) (.t 24))]) (.cond (.t 25) 
  (.seq (.region [u (.store none (.t 2) (.c (.b false)))]) .ret) .skip))))))) 
  (.seq (.region [u (.store none (.t 2) (.c (.b true)))]) .ret)))))⟩
def c24 : AFunc := ⟨1, 5, [(2, (some (some 4)))], (some 
  (.seq (.region [o 2 (.alloc (.ag [(.i .u8 0), (.s []), .nilsl, .nilsl]))]) 
  (.seq (.region [m 3 0, o 4 (.build [(.i .u8 0), (.s []), .nilsl, .nilsl] [(0, 1, (.c (.i .u8 1))), (1, 1, (.t 3))]), u (.store (some 4) (.t 2) (.t 4))]) .ret)))⟩
def c25 : AFunc := ⟨4, 14, [(8, (some (some 8)))], (some 
  (.seq (.region [o 5 (.box (.t 1)), o 8 (.alloc (.ag [(.s []), (.i .u8 0), (.s []), .nilsl, .nilsl, (.i .i64 0), .nilsl, .nilsl]))]) 
  (.seq (.region [m 9 0, o 10 (.load (some 4) (.t 5)), m 11 3, m 12 2, o 13 (.build [(.s []), (.i .u8 0), (.s []), .nilsl, .nilsl, (.i .i64 0), .nilsl, .nilsl] [(0, 1, (.t 9)), (1, 4, (.t 10)), (6, 1, (.t 11)), (7, 1, (.t 12))]), u (.store (some 8) (.t 8) (.t 13))]) .ret)))⟩
def c26 : AFunc := ⟨2, 107, [(4, none), (5, none)], (some 
  (.seq (.region [o 2 (.box (.t 0)), o 3 (.box (.t 1)), o 4 (.mv (.c .nilsl)), o 5 (.mv (.c (.i .i64 0)))]) 
  (.seq (.region [o 18 (.load (some 5) (.t 2)), o 19 (.load (some 8) (.t 3)), o 20 (.call (.fn 41) [(.t 18), (.t 19)]), m 17 20, o 21 (.extract (.t 17) 0), o 22 (.extract (.t 17) 1), o 23 (.extract (.t 17) 2), o 7 (.alloc (.ag [.nilsl, (.i .u8 0), (.i .u8 0), (.i .i64 0), (.i .i64 0)])), m 6 21, u (.store (some 5) (.t 7) (.t 22)), m 8 23]) 
  (.seq 
  (.seq (.region [m 24 8, o 25 (.bin .neq (.t 24) (.c (.i .i64 0)))]) (.cond (.t 25) 
  (.seq (.region [m 26 8, o 4 (.mv (.c .nilsl)), m 5 26]) .ret) .skip)) 
  (.seq (.region [o 27 (.mkMap), o 28 (.mkMap), o 29 (.mkMap), o 30 (.build [(.m none), (.m none), (.b false), (.s []), .nilsl, .nilsl, (.m none), (.i .i64 0), (.b false)] [(0, 1, (.t 27)), (1, 1, (.t 28)), (6, 1, (.t 29))]), o 31 (.box (.t 30)), m 9 31]) 
  (.seq 
  (.seq (.region [o 32 (.fieldAddr 4 none (.t 2)), o 33 (.load none (.t 32)), o 34 (.len 1 (.t 33)), o 35 (.mv (.c (.i .i64 0)))]) (.block 0 (.loop 
  (.seq (.region [o 36 (.bin .lss (.t 35) (.t 34))]) 
  (.seq (.cond (.t 36) .skip (.exit 0)) 
  (.seq (.block 1 
  (.seq (.region [o 37 (.idxSl (some 6) (.t 33) (.t 35)), o 38 (.load (some 6) (.t 37)), o 11 (.alloc (.ag [(.s []), .nilsl, (.i .u8 0), (.s []), .nilsl, .nilsl])), u (.store (some 6) (.t 11) (.t 38))]) (.draw [m 39 9, o 40 (.nilCheck (.t 39)), o 41 (.fieldAddr 0 none (.t 40)), o 42 (.load none (.t 41)), o 43 (.fieldAddr 0 none (.t 11)), o 44 (.load none (.t 43)), o 45 (.load (some 6) (.t 11)), u (.mapUpd (.inl 1) (.t 42) (.t 44) (.t 45))]))) (.region [o 46 (.bin .add (.t 35) (.c (.i .i64 1))), m 35 46]))))))) 
  (.seq (.region [m 47 9, m 48 9, o 49 (.load (some 8) (.t 3)), o 50 (.call (.fn 43) [(.t 48), (.t 49), (.c .nilsl)]), o 51 (.call (.fn 42) [(.t 50)]), o 52 (.build [(.b false), (.s []), .nilsl] [(0, 1, (.c (.b true))), (1, 1, (.t 51))]), o 53 (.nilCheck (.t 47)), o 54 (.fieldAddr 2 (some 3) (.t 53)), u (.store (some 3) (.t 54) (.t 52))]) 
  (.seq 
  (.seq (.region [m 55 6, o 56 (.len 1 (.t 55)), o 57 (.mv (.c (.i .i64 0)))]) (.block 2 (.loop 
  (.seq (.region [o 58 (.bin .lss (.t 57) (.t 56))]) 
  (.seq (.cond (.t 58) .skip (.exit 2)) 
  (.seq (.block 3 
  (.seq (.region [o 59 (.idxSl (some 5) (.t 55) (.t 57)), o 60 (.load (some 5) (.t 59)), o 13 (.alloc (.ag [(.i .i64 0), (.i .u8 0), (.s []), .nilsl, .nilsl])), u (.store (some 5) (.t 13) (.t 60))]) 
  (.seq (.region [m 61 9, o 62 (.fieldAddr 1 (some 4) (.t 13)), o 63 (.load (some 4) (.t 62)), o 64 (.build [(.i .i64 0), (.i .i64 0), (.b false), (.i .u8 0), (.s []), .nilsl, .nilsl, (.s []), .nilsl] [(2, 1, (.c (.b true))), (3, 4, (.t 63))]), o 65 (.call (.fn 44) [(.t 61), (.t 64)]), m 14 65]) (.draw [m 66 9, o 67 (.nilCheck (.t 66)), o 68 (.fieldAddr 6 none (.t 67)), ⟨(some 69), .load none (.t 68), none, [8]⟩, o 70 (.fieldAddr 0 none (.t 13)), ⟨(some 71), .load none (.t 70), none, [8]⟩, m 72 14, o 73 (.buildSlice none 1 [(.i .i64 0)] [(0, (.t 72))]), u (.mapUpd (.inl 0) (.t 69) (.t 71) (.t 73))])))) (.region [o 74 (.bin .add (.t 57) (.c (.i .i64 1))), m 57 74]))))))) 
  (.seq (.region [m 75 9, o 76 (.load (some 8) (.t 3)), o 77 (.call (.fn 45) [(.t 75), (.t 76), (.c (.i .i64 0))])]) 
  (.seq 
  (.seq (.region [m 78 9, o 79 (.nilCheck (.t 78)), o 80 (.fieldAddr 8 none (.t 79)), o 81 (.load none (.t 80)), m 82 81, ⟨(some 83), .mv (.t 9), (some (82, false)), []⟩, ⟨(some 84), .nilCheck (.t 83), (some (82, false)), []⟩, ⟨(some 85), .fieldAddr 5 none (.t 84), (some (82, false)), []⟩, ⟨(some 86), .load none (.t 85), (some (82, false)), []⟩, ⟨(some 87), .len 1 (.t 86), (some (82, false)), []⟩, ⟨(some 88), .bin .gtr (.t 87) (.c (.i .i64 500)), (some (82, false)), []⟩, o 89 (.pick (.t 82) (.c (.b true)) (.t 88))]) (.cond (.t 89) 
  (.seq (.region [o 4 (.mv (.c .nilsl)), o 5 (.mv (.c (.i .i64 5)))]) .ret) .skip)) 
  (.seq 
  (.seq (.region [m 90 9, o 91 (.nilCheck (.t 90)), o 92 (.fieldAddr 5 none (.t 91)), o 93 (.load none (.t 92)), o 94 (.len 1 (.t 93)), o 95 (.mv (.c (.i .i64 0)))]) (.block 4 (.loop 
  (.seq (.region [o 96 (.bin .lss (.t 95) (.t 94))]) 
  (.seq (.cond (.t 96) .skip (.exit 4)) 
  (.seq (.block 5 
  (.seq (.region [o 97 (.idxSl (some 9) (.t 93) (.t 95)), o 98 (.load (some 9) (.t 97)), o 16 (.alloc (.ag [(.i .i64 0), (.i .i64 0), (.b false), (.i .u8 0), (.s []), .nilsl, .nilsl, (.s []), .nilsl])), u (.store (some 9) (.t 16) (.t 98))]) 
  (.seq (.region [o 99 (.fieldAddr 0 none (.t 16)), o 100 (.load none (.t 99)), o 101 (.bin .gtr (.t 100) (.c (.i .i64 40)))]) (.cond (.t 101) 
  (.seq (.region [o 4 (.mv (.c .nilsl)), o 5 (.mv (.c (.i .i64 5)))]) .ret) .skip)))) (.region [o 102 (.bin .add (.t 95) (.c (.i .i64 1))), m 95 102]))))))) 
  (.seq (.region [m 103 9, o 104 (.nilCheck (.t 103)), o 105 (.fieldAddr 5 none (.t 104)), o 106 (.load none (.t 105)), m 4 106, o 5 (.mv (.c (.i .i64 0)))]) .ret))))))))))))⟩
def c27 : AFunc := ⟨2, 87, [(4, none)], (some 
  (.seq (.region [o 4 (.mv (.c (.b false)))]) 
  (.seq 
  (.seq (.region [m 9 0, o 10 (.len 1 (.t 9)), m 11 1, o 12 (.len 1 (.t 11)), o 13 (.bin .neq (.t 10) (.t 12))]) (.cond (.t 13) 
  (.seq (.region [o 4 (.mv (.c (.b false)))]) .ret) .skip)) 
  (.seq 
  (.seq (.region [m 14 0, o 15 (.len 1 (.t 14)), o 16 (.mv (.c (.i .i64 0)))]) (.block 0 (.loop 
  (.seq (.region [o 17 (.bin .lss (.t 16) (.t 15))]) 
  (.seq (.cond (.t 17) .skip (.exit 0)) 
  (.seq (.block 1 
  (.seq (.region [m 18 16, o 19 (.idxSl (some 9) (.t 14) (.t 16)), o 20 (.load (some 9) (.t 19)), o 6 (.alloc (.ag [(.i .i64 0), (.i .i64 0), (.b false), (.i .u8 0), (.s []), .nilsl, .nilsl, (.s []), .nilsl])), m 5 18, u (.store (some 9) (.t 6) (.t 20))]) 
  (.seq (.region [m 21 1, m 22 5, o 23 (.idxSl (some 9) (.t 21) (.t 22)), o 24 (.load (some 9) (.t 23)), o 7 (.alloc (.ag [(.i .i64 0), (.i .i64 0), (.b false), (.i .u8 0), (.s []), .nilsl, .nilsl, (.s []), .nilsl])), u (.store (some 9) (.t 7) (.t 24))]) 
  (.seq 
  (.seq (.region [o 25 (.fieldAddr 0 none (.t 6)), o 26 (.load none (.t 25)), o 27 (.fieldAddr 0 none (.t 7)), o 28 (.load none (.t 27)), o 29 (.bin .neq (.t 26) (.t 28)), m 30 29, ⟨(some 31), .fieldAddr 1 none (.t 6), (some (30, false)), []⟩, ⟨(some 32), .load none (.t 31), (some (30, false)), []⟩, ⟨(some 33), .fieldAddr 1 none (.t 7), (some (30, false)), []⟩, ⟨(some 34), .load none (.t 33), (some (30, false)), []⟩, ⟨(some 35), .bin .neq (.t 32) (.t 34), (some (30, false)), []⟩, o 36 (.pick (.t 30) (.c (.b true)) (.t 35)), m 37 36, ⟨(some 38), .fieldAddr 2 none (.t 6), (some (37, false)), []⟩, ⟨(some 39), .load none (.t 38), (some (37, false)), []⟩, ⟨(some 40), .fieldAddr 2 none (.t 7), (some (37, false)), []⟩, ⟨(some 41), .load none (.t 40), (some (37, false)), []⟩, ⟨(some 42), .binB true (.t 39) (.t 41), (some (37, false)), []⟩, o 43 (.pick (.t 37) (.c (.b true)) (.t 42)), m 44 43, ⟨(some 45), .fieldAddr 7 none (.t 6), (some (44, false)), []⟩, ⟨(some 46), .load none (.t 45), (some (44, false)), []⟩, ⟨(some 47), .fieldAddr 7 none (.t 7), (some (44, false)), []⟩, ⟨(some 48), .load none (.t 47), (some (44, false)), []⟩, ⟨(some 49), .bin .neq (.t 46) (.t 48), (some (44, false)), []⟩, o 50 (.pick (.t 44) (.c (.b true)) (.t 49)), m 51 50, ⟨(some 52), .fieldAddr 8 none (.t 6), (some (51, false)), []⟩, ⟨(some 53), .load none (.t 52), (some (51, false)), []⟩, ⟨(some 54), .len 1 (.t 53), (some (51, false)), []⟩, ⟨(some 55), .fieldAddr 8 none (.t 7), (some (51, false)), []⟩, ⟨(some 56), .load none (.t 55), (some (51, false)), []⟩, ⟨(some 57), .len 1 (.t 56), (some (51, false)), []⟩, ⟨(some 58), .bin .neq (.t 54) (.t 57), (some (51, false)), []⟩, o 59 (.pick (.t 51) (.c (.b true)) (.t 58)), m 60 59, ⟨(some 61), .fieldAddr 3 (some 4) (.t 6), (some (60, false)), []⟩, ⟨(some 62), .load (some 4) (.t 61), (some (60, false)), []⟩, ⟨(some 63), .fieldAddr 3 (some 4) (.t 7), (some (60, false)), []⟩, ⟨(some 64), .load (some 4) (.t 63), (some (60, false)), []⟩, ⟨(some 65), .call (.fn 46) [(.t 62), (.t 64)], (some (60, false)), []⟩, ⟨(some 66), .not (.t 65), (some (60, false)), []⟩, o 67 (.pick (.t 60) (.c (.b true)) (.t 66))]) (.cond (.t 67) 
  (.seq (.region [o 4 (.mv (.c (.b false)))]) .ret) .skip)) 
  (.seq (.region [o 68 (.fieldAddr 8 none (.t 6)), o 69 (.load none (.t 68)), o 70 (.len 1 (.t 69)), o 71 (.mv (.c (.i .i64 0)))]) (.block 2 (.loop 
  (.seq (.region [o 72 (.bin .lss (.t 71) (.t 70))]) 
  (.seq (.cond (.t 72) .skip (.exit 2)) 
  (.seq (.block 3 
  (.seq (.region [m 73 71, m 8 73]) 
  (.seq (.draw [o 74 (.fieldAddr 8 none (.t 6)), o 75 (.load none (.t 74)), m 76 8, o 77 (.idxSl (some 2) (.t 75) (.t 76)), o 78 (.load (some 2) (.t 77)), o 79 (.fieldAddr 8 none (.t 7)), o 80 (.load none (.t 79)), m 81 8, o 82 (.idxSl (some 2) (.t 80) (.t 81)), o 83 (.load (some 2) (.t 82)), o 84 (.eqNil 26 true (.t 78) (.t 83))]) (.cond (.t 84) 
  (.seq (.region [o 4 (.mv (.c (.b false)))]) .ret) .skip)))) (.region [o 85 (.bin .add (.t 71) (.c (.i .i64 1))), m 71 85]))))))))))) (.region [o 86 (.bin .add (.t 16) (.c (.i .i64 1))), m 16 86]))))))) 
  (.seq (.region [o 4 (.mv (.c (.b true)))]) .ret)))))⟩
def c28 : AFunc := ⟨2, 26, [(4, none)], (some 
  (.seq (.region [o 4 (.mv (.c (.b false)))]) 
  (.seq 
  (.seq (.region [m 6 0, o 7 (.len 1 (.t 6)), m 8 1, o 9 (.len 1 (.t 8)), o 10 (.bin .neq (.t 7) (.t 9))]) (.cond (.t 10) 
  (.seq (.region [o 4 (.mv (.c (.b false)))]) .ret) .skip)) 
  (.seq 
  (.seq (.region [o 5 (.mv (.c (.i .i64 0)))]) (.block 0 (.loop 
  (.seq 
  (.seq (.region [m 11 5, m 12 0, o 13 (.len 1 (.t 12)), o 14 (.bin .lss (.t 11) (.t 13))]) (.cond (.t 14) .skip (.exit 0))) 
  (.seq (.block 1 
  (.seq (.draw [m 17 0, m 18 5, o 19 (.idxSl none (.t 17) (.t 18)), o 20 (.load none (.t 19)), m 21 1, m 22 5, o 23 (.idxSl none (.t 21) (.t 22)), o 24 (.load none (.t 23)), o 25 (.bin .neq (.t 20) (.t 24))]) (.cond (.t 25) 
  (.seq (.region [o 4 (.mv (.c (.b false)))]) .ret) .skip))) (.region [m 15 5, o 16 (.bin .add (.t 15) (.c (.i .i64 1))), m 5 16])))))) 
  (.seq (.region [o 4 (.mv (.c (.b true)))]) .ret)))))⟩
def c29 : AFunc := ⟨1, 13, [(2, none)], (some 
  (.seq (.region [o 2 (.mv (.c (.i .u32 0)))]) 
  (.seq 
  (.seq (.region [m 3 0]) (.block 0 
  (.seq 
  (.seq (.region [o 5 (.bin .eql (.t 3) (.c (.i .u8 1))), m 4 5]) (.cond (.t 4) .skip (.region [o 6 (.bin .eql (.t 3) (.c (.i .u8 3))), m 4 6]))) (.cond (.t 4) 
  (.seq (.region [o 2 (.mv (.c (.i .u32 254)))]) .ret) 
  (.seq (.region [o 8 (.bin .eql (.t 3) (.c (.i .u8 2))), m 7 8]) (.cond (.t 7) 
  (.seq (.region [o 2 (.mv (.c (.i .u32 1022)))]) .ret) 
  (.seq (.region [o 10 (.bin .eql (.t 3) (.c (.i .u8 4))), m 9 10]) (.cond (.t 9) 
  (.seq (.region [o 2 (.mv (.c (.i .u32 3326)))]) .ret) 
  (.seq (.region [o 12 (.bin .eql (.t 3) (.c (.i .u8 5))), m 11 12]) (.cond (.t 11) 
  (.seq (.region [o 2 (.mv (.c (.i .u32 28926)))]) .ret) .skip)))))))))) 
  (.seq (.region [o 2 (.mv (.c (.i .u32 0)))]) .ret))))⟩
def c30 : AFunc := ⟨1, 13, [(2, (some (some 4)))], (some 
  (.seq (.region [o 2 (.alloc (.ag [(.i .u8 0), (.s []), .nilsl, .nilsl]))]) 
  (.seq (.region [m 7 0, o 8 (.call (.fn 47) [(.t 7)]), m 6 8, o 9 (.extract (.t 6) 0), o 10 (.extract (.t 6) 1), o 11 (.extract (.t 6) 2), o 3 (.alloc (.ag [(.i .u8 0), (.s []), .nilsl, .nilsl])), u (.store (some 4) (.t 3) (.t 9)), m 4 10, m 5 11]) 
  (.seq (.region [o 12 (.load (some 4) (.t 3)), u (.store (some 4) (.t 2) (.t 12))]) .ret))))⟩
def c31 : AFunc := ⟨1, 4, [(2, none)], (some (.seq (.region [o 1 (.box (.t 0)), o 2 (.mv (.c .nf))]) (.seq (.region [o 3 (.mkFunc (.func 48) [] [(.t 1)]), m 2 3]) .ret)))⟩
def c32 : AFunc := ⟨1, 60, [(2, (some (some 7)))], (some 
  (.seq (.region [o 2 (.alloc (.ag [.nilsl, (.i .u8 0), (.s []), .nilsl, .nilsl, (.s []), (.b false)]))]) 
  (.seq (.region [o 3 (.alloc (.ag [.nilsl, (.i .u8 0), (.s []), .nilsl, .nilsl, (.s []), (.b false)]))]) 
  (.seq (.region [m 13 0, o 14 (.call (.fn 50) [(.t 13), (.c (.s [99, 108, 111, 115, 101, 100, 32]))]), m 12 14, o 15 (.extract (.t 12) 0), o 16 (.extract (.t 12) 1), m 0 15, o 17 (.fieldAddr 6 none (.t 3)), u (.store none (.t 17) (.t 16))]) 
  (.seq 
  (.seq (.region [m 19 0, o 20 (.call (.fn 50) [(.t 19), (.c (.s [102, 114, 101, 115, 104, 32]))]), m 18 20, o 21 (.extract (.t 18) 0), o 22 (.extract (.t 18) 1), m 4 21, m 5 22]) 
  (.seq (.region [m 23 5]) (.cond (.t 23) (.region [m 25 4, o 26 (.call (.fn 51) [(.t 25), (.c (.s [32]))]), m 24 26, o 27 (.extract (.t 24) 0), o 28 (.extract (.t 24) 1), o 29 (.extract (.t 24) 2), o 30 (.fieldAddr 5 none (.t 3)), u (.store none (.t 30) (.t 27)), m 0 28]) .skip))) 
  (.seq 
  (.seq (.region [m 32 0, o 33 (.call (.fn 50) [(.t 32), (.c (.s [123]))]), m 31 33, o 34 (.extract (.t 31) 0), o 35 (.extract (.t 31) 1), m 6 34, m 7 35]) 
  (.seq (.region [m 36 7]) (.cond (.t 36) 
  (.seq (.region [m 38 6, o 39 (.call (.fn 51) [(.t 38), (.c (.s [125]))]), m 37 39, o 40 (.extract (.t 37) 0), o 41 (.extract (.t 37) 1), o 42 (.extract (.t 37) 2), m 8 40, m 9 41, m 10 42]) 
  (.seq 
  (.seq (.region [m 43 8, o 44 (.call (.fn 52) [(.t 43), (.c (.s [59]))])]) (.block 0 (.rangeFunc (.t 44) [45] (.region [m 11 45]) (.block 1 (.draw [o 46 (.fieldAddr 0 none (.t 3)), ⟨(some 47), .load none (.t 46), none, [5, 6]⟩, m 48 11, ⟨(some 50), .len 1 (.t 47), none, [5, 6]⟩, o 51 (.buildSlice (some 4) 1 [(.i .u8 0), (.s []), .nilsl, .nilsl] [(0, (.c (.ag [(.i .u8 0), (.s []), .nilsl, .nilsl])))]), o 49 (.call (.fn 30) [(.t 48)]), o 52 (.append (some 4) 72 (.t 47) (.t 51)), o 53 (.idxSl (some 4) (.t 52) (.t 50)), o 54 (.fieldAddr 0 none (.t 3)), u (.store (some 4) (.t 53) (.t 49)), ⟨none, .store none (.t 54) (.t 52), none, [9]⟩]))))) (.region [m 55 9, m 0 55]))) .skip))) 
  (.seq (.region [m 56 0, o 57 (.call (.fn 30) [(.t 56)]), o 58 (.fieldAddr 1 (some 4) (.t 3)), u (.store (some 4) (.t 58) (.t 57))]) 
  (.seq (.region [o 59 (.load (some 7) (.t 3)), u (.store (some 7) (.t 2) (.t 59))]) .ret))))))))⟩
def c33 : AFunc := ⟨1, 86, [(2, none)], (some 
  (.seq (.region [o 1 (.box (.t 0)), o 2 (.mv (.c (.b false)))]) 
  (.seq (.region [o 8 (.fieldAddr 2 none (.t 1)), o 9 (.load none (.t 8)), o 10 (.call (.fn 29) [(.t 9)]), m 3 10]) 
  (.seq 
  (.seq (.region [o 11 (.fieldAddr 0 none (.t 1)), o 12 (.load none (.t 11)), o 13 (.call (.fn 53) [(.t 12)]), o 14 (.not (.t 13)), m 15 14, ⟨(some 16), .mv (.t 3), (some (15, false)), []⟩, ⟨(some 17), .bin .eql (.t 16) (.c (.i .u32 0)), (some (15, false)), []⟩, o 18 (.pick (.t 15) (.c (.b true)) (.t 17)), m 19 18, ⟨(some 20), .fieldAddr 1 none (.t 1), (some (19, false)), []⟩, ⟨(some 21), .load none (.t 20), (some (19, false)), []⟩, ⟨(some 22), .bin .and (.t 21) (.c (.i .u32 2)), (some (19, false)), []⟩, ⟨(some 23), .bin .eql (.t 22) (.c (.i .u32 0)), (some (19, false)), []⟩, o 24 (.pick (.t 19) (.c (.b true)) (.t 23)), m 25 24, ⟨(some 26), .fieldAddr 1 none (.t 1), (some (25, false)), []⟩, ⟨(some 27), .load none (.t 26), (some (25, false)), []⟩, ⟨(some 28), .mv (.t 3), (some (25, false)), []⟩, ⟨(some 29), .bin .andNot (.t 27) (.t 28), (some (25, false)), []⟩, ⟨(some 30), .bin .neq (.t 29) (.c (.i .u32 0)), (some (25, false)), []⟩, o 31 (.pick (.t 25) (.c (.b true)) (.t 30))]) (.cond (.t 31) 
  (.seq (.region [o 2 (.mv (.c (.b false)))]) .ret) .skip)) 
  (.seq 
  (.seq (.region [o 32 (.fieldAddr 3 none (.t 1)), o 33 (.load none (.t 32)), o 34 (.bin .andNot (.t 33) (.c (.i .u8 7))), o 35 (.bin .neq (.t 34) (.c (.i .u8 0))), m 36 35, ⟨(some 37), .fieldAddr 3 none (.t 1), (some (36, false)), []⟩, ⟨(some 38), .load none (.t 37), (some (36, false)), []⟩, ⟨(some 39), .bin .neq (.t 38) (.c (.i .u8 0)), (some (36, false)), []⟩, ⟨(some 40), .mv (.t 39), (some (36, false)), []⟩, ⟨(some 41), .fieldAddr 2 none (.t 1), (some (40, true)), []⟩, ⟨(some 42), .load none (.t 41), (some (40, true)), []⟩, ⟨(some 43), .bin .neq (.t 42) (.c (.i .u8 4)), (some (40, true)), []⟩, ⟨(some 44), .pick (.t 40) (.t 43) (.c (.b false)), (some (36, false)), []⟩, o 45 (.pick (.t 36) (.c (.b true)) (.t 44))]) (.cond (.t 45) 
  (.seq (.region [o 2 (.mv (.c (.b false)))]) .ret) .skip)) 
  (.seq 
  (.seq (.region [o 46 (.fieldAddr 4 none (.t 1)), o 47 (.load none (.t 46)), o 48 (.len 1 (.t 47)), o 49 (.bin .gtr (.t 48) (.c (.i .i64 64)))]) (.cond (.t 49) 
  (.seq (.region [o 2 (.mv (.c (.b false)))]) .ret) .skip)) 
  (.seq (.region [o 50 (.fieldAddr 1 none (.t 1)), o 51 (.load none (.t 50)), o 52 (.bin .or (.t 51) (.c (.i .u32 32768))), m 4 52]) 
  (.seq 
  (.seq (.region [o 53 (.fieldAddr 1 none (.t 1)), o 54 (.load none (.t 53)), o 55 (.bin .and (.t 54) (.c (.i .u32 768))), o 56 (.bin .neq (.t 55) (.c (.i .u32 0)))]) (.cond (.t 56) (.region [m 57 4, o 58 (.bin .or (.t 57) (.c (.i .u32 65536))), m 4 58]) .skip)) 
  (.seq (.region [o 59 (.mkMap), m 5 59]) 
  (.seq 
  (.seq (.region [o 60 (.fieldAddr 4 none (.t 1)), o 61 (.load none (.t 60)), o 62 (.len 1 (.t 61)), o 63 (.mv (.c (.i .i64 0)))]) (.block 0 (.loop 
  (.seq (.region [o 64 (.bin .lss (.t 63) (.t 62))]) 
  (.seq (.cond (.t 64) .skip (.exit 0)) 
  (.seq (.block 1 
  (.seq (.region [o 65 (.idxSl (some 6) (.t 61) (.t 63)), o 66 (.load (some 6) (.t 65)), o 7 (.alloc (.ag [(.s []), .nilsl, (.i .u8 0), (.s []), .nilsl, .nilsl])), u (.store (some 6) (.t 7) (.t 66))]) 
  (.seq 
  (.seq (.region [m 67 5, o 68 (.fieldAddr 0 none (.t 7)), o 69 (.load none (.t 68)), o 70 (.lookup (.inl 1) (.t 67) (.t 69) (.b false) false), m 71 70, ⟨(some 72), .load (some 6) (.t 7), (some (71, false)), []⟩, ⟨(some 73), .call (.fn 54) [(.t 72)], (some (71, false)), []⟩, ⟨(some 74), .not (.t 73), (some (71, false)), []⟩, o 75 (.pick (.t 71) (.c (.b true)) (.t 74)), m 76 75, ⟨(some 77), .load (some 6) (.t 7), (some (76, false)), []⟩, ⟨(some 78), .mv (.t 4), (some (76, false)), []⟩, ⟨(some 79), .call (.fn 55) [(.t 77), (.t 78)], (some (76, false)), []⟩, ⟨(some 80), .not (.t 79), (some (76, false)), []⟩, o 81 (.pick (.t 76) (.c (.b true)) (.t 80))]) (.cond (.t 81) 
  (.seq (.region [o 2 (.mv (.c (.b false)))]) .ret) .skip)) (.region [m 82 5, o 83 (.fieldAddr 0 none (.t 7)), o 84 (.load none (.t 83)), u (.mapUpd (.inl 1) (.t 82) (.t 84) (.c (.b true)))])))) (.region [o 85 (.bin .add (.t 63) (.c (.i .i64 1))), m 63 85]))))))) 
  (.seq (.region [o 2 (.mv (.c (.b true)))]) .ret)))))))))))⟩
def c34 : AFunc := ⟨1, 57, [(2, none), (3, none)], (some 
  (.seq (.region [o 2 (.mv (.c (.p none))), o 3 (.mv (.c (.i .i64 0)))]) 
  (.seq 
  (.seq (.region [m 8 0, o 9 (.len 1 (.t 8)), o 10 (.bin .eql (.t 9) (.c (.i .i64 0))), m 11 10, ⟨(some 12), .mv (.t 0), (some (11, false)), []⟩, ⟨(some 13), .len 1 (.t 12), (some (11, false)), []⟩, ⟨(some 14), .bin .gtr (.t 13) (.c (.i .i64 500)), (some (11, false)), []⟩, o 15 (.pick (.t 11) (.c (.b true)) (.t 14))]) (.cond (.t 15) 
  (.seq (.region [o 2 (.mv (.c (.p none))), o 3 (.mv (.c (.i .i64 5)))]) .ret) .skip)) 
  (.seq 
  (.seq (.region [m 16 0, o 17 (.call (.fn 35) [(.t 16)]), o 18 (.bin .neq (.t 17) (.c (.i .i64 0)))]) (.cond (.t 18) 
  (.seq (.region [o 2 (.mv (.c (.p none))), o 3 (.mv (.c (.i .i64 2)))]) .ret) .skip)) 
  (.seq (.region [m 19 0, o 20 (.build [.nilsl, .nilsl, .nilsl] [(0, 1, (.t 19))]), o 21 (.box (.t 20)), o 4 (.alloc (.p none)), u (.store none (.t 4) (.t 21))]) 
  (.seq 
  (.seq (.region [m 22 0, o 23 (.call (.fn 56) [(.t 22)])]) (.block 0 (.rangeFunc (.t 23) [24, 25] (.region [m 6 25]) (.block 1 (.draw [⟨(some 26), .load none (.t 4), none, [8, 11]⟩, ⟨(some 27), .load none (.t 4), none, [8]⟩, o 28 (.nilCheck (.t 27)), o 29 (.fieldAddr 1 none (.t 28)), ⟨(some 30), .load none (.t 29), none, [8]⟩, m 31 6, o 32 (.call (.fn 57) [(.t 31)]), o 33 (.buildSlice none 1 [.nilsl] [(0, (.t 32))]), o 34 (.append none 24 (.t 30) (.t 33)), o 35 (.nilCheck (.t 26)), o 36 (.fieldAddr 1 none (.t 35)), u (.store none (.t 36) (.t 34))]))))) 
  (.seq 
  (.seq (.region [m 37 0, o 38 (.len 1 (.t 37)), o 39 (.mv (.c (.i .i64 0)))]) (.block 2 (.loop 
  (.seq (.region [o 40 (.bin .lss (.t 39) (.t 38))]) 
  (.seq (.cond (.t 40) .skip (.exit 2)) 
  (.seq (.block 3 
  (.seq (.region [m 41 39, m 7 41]) (.draw [⟨(some 42), .load none (.t 4), none, [10, 13]⟩, ⟨(some 43), .load none (.t 4), none, [10]⟩, o 44 (.nilCheck (.t 43)), o 45 (.fieldAddr 2 none (.t 44)), ⟨(some 46), .load none (.t 45), none, [10]⟩, o 47 (.load none (.t 4)), m 48 7, o 49 (.bin .add (.t 48) (.c (.i .i64 1))), o 50 (.call (.fn 58) [(.t 47), (.t 49)]), o 51 (.buildSlice none 1 [.nilsl] [(0, (.t 50))]), o 52 (.append none 24 (.t 46) (.t 51)), o 53 (.nilCheck (.t 42)), o 54 (.fieldAddr 2 none (.t 53)), u (.store none (.t 54) (.t 52))]))) (.region [o 55 (.bin .add (.t 39) (.c (.i .i64 1))), m 39 55]))))))) 
  (.seq (.region [o 56 (.load none (.t 4)), m 2 56, o 3 (.mv (.c (.i .i64 0)))]) .ret))))))))⟩
def c35 : AFunc := ⟨1, 15, [(2, none)], (some 
  (.seq (.region [o 2 (.mv (.c (.i .i64 0)))]) 
  (.seq 
  (.seq (.region [o 3 (.mv (.c (.i .i64 1)))]) (.block 0 (.loop 
  (.seq 
  (.seq (.region [m 4 3, m 5 0, o 6 (.len 1 (.t 5)), o 7 (.bin .leq (.t 4) (.t 6))]) (.cond (.t 7) .skip (.exit 0))) 
  (.seq (.block 1 
  (.seq (.region [m 10 0, m 11 3, o 12 (.call (.fn 59) [(.t 10), (.t 11)]), o 13 (.not (.t 12))]) (.cond (.t 13) 
  (.seq (.region [m 14 3, m 2 14]) .ret) .skip))) (.region [m 8 3, o 9 (.bin .add (.t 8) (.c (.i .i64 1))), m 3 9])))))) 
  (.seq (.region [o 2 (.mv (.c (.i .i64 0)))]) .ret))))⟩
def c36 : AFunc := ⟨3, 89, [(6, none), (7, (some (some 3)))], (some 
  (.seq (.region [o 4 (.box (.t 1)), o 6 (.mv (.c (.i .u8 0))), o 7 (.alloc (.ag [(.i .u8 0), (.i .i64 0), (.i .i64 0)]))]) 
  (.seq (.region [m 16 0, o 17 (.nilCheck (.t 16)), o 18 (.fieldAddr 0 none (.t 17)), o 19 (.load none (.t 18)), m 20 2, o 21 (.bin .sub (.t 20) (.c (.i .i64 1))), o 22 (.idxSl (some 9) (.t 19) (.t 21)), o 23 (.load (some 9) (.t 22)), o 8 (.alloc (.ag [(.i .i64 0), (.i .i64 0), (.b false), (.i .u8 0), (.s []), .nilsl, .nilsl, (.s []), .nilsl])), u (.store (some 9) (.t 8) (.t 23))]) 
  (.seq 
  (.seq (.region [o 24 (.load (some 5) (.t 4)), o 25 (.fieldAddr 3 (some 4) (.t 8)), o 26 (.load (some 4) (.t 25)), o 27 (.call (.fn 60) [(.t 24), (.t 26)]), o 28 (.not (.t 27))]) (.cond (.t 28) 
  (.seq (.region [o 29 (.build [(.i .u8 0), (.i .i64 0), (.i .i64 0)] []), o 6 (.mv (.c (.i .u8 3))), u (.store (some 3) (.t 7) (.t 29))]) .ret) .skip)) 
  (.seq 
  (.seq (.region [o 30 (.fieldAddr 2 none (.t 8)), o 31 (.load none (.t 30))]) (.cond (.t 31) 
  (.seq (.region [o 32 (.build [(.i .u8 0), (.i .i64 0), (.i .i64 0)] []), o 6 (.mv (.c (.i .u8 0))), u (.store (some 3) (.t 7) (.t 32))]) .ret) .skip)) 
  (.seq (.region [o 33 (.fieldAddr 4 none (.t 4)), o 34 (.load none (.t 33)), o 35 (.mkFunc (.func 62) [] [(.t 8)]), o 36 (.call (.fn 61) [(.t 34), (.t 35)]), m 9 36]) 
  (.seq (.region [o 10 (.alloc (.ag [(.s []), .nilsl, (.i .u8 0), (.s []), .nilsl, .nilsl]))]) 
  (.seq (.block 0 
  (.seq (.region [o 43 (.fieldAddr 7 none (.t 8)), o 44 (.load none (.t 43)), o 45 (.bin .eql (.t 44) (.c (.s [97, 103, 97, 105, 110]))), m 42 45]) (.cond (.t 42) (.region [o 46 (.mkSlice (some 7) 120 [.nilsl, (.i .u8 0), (.s []), .nilsl, .nilsl, (.s []), (.b false)] (.c (.i .i64 1)) (.c (.i .i64 1))), o 47 (.fieldAddr 1 none (.t 10)), u (.store none (.t 47) (.t 46))]) 
  (.seq (.region [m 49 9, o 50 (.bin .lss (.t 49) (.c (.i .i64 0))), m 48 50]) (.cond (.t 48) 
  (.seq (.region [o 51 (.build [(.i .u8 0), (.i .i64 0), (.i .i64 0)] []), o 6 (.mv (.c (.i .u8 4))), u (.store (some 3) (.t 7) (.t 51))]) .ret) (.region [o 37 (.fieldAddr 4 none (.t 4)), o 38 (.load none (.t 37)), m 39 9, o 40 (.idxSl (some 6) (.t 38) (.t 39)), o 41 (.load (some 6) (.t 40)), u (.store (some 6) (.t 10) (.t 41))])))))) 
  (.seq (.region [m 53 0, m 54 2, o 55 (.fieldAddr 1 none (.t 10)), o 56 (.load none (.t 55)), o 57 (.call (.fn 63) [(.t 53), (.t 54), (.t 56)]), m 52 57, o 58 (.extract (.t 52) 0), o 59 (.extract (.t 52) 1), m 11 58, m 12 59]) 
  (.seq 
  (.seq (.region [m 60 12, o 61 (.not (.t 60))]) (.cond (.t 61) 
  (.seq (.region [o 62 (.build [(.i .u8 0), (.i .i64 0), (.i .i64 0)] []), o 6 (.mv (.c (.i .u8 5))), u (.store (some 3) (.t 7) (.t 62))]) .ret) .skip)) 
  (.seq 
  (.seq (.region [o 63 (.fieldAddr 7 none (.t 8)), o 64 (.load none (.t 63)), o 65 (.bin .eql (.t 64) (.c (.s [97, 103, 97, 105, 110])))]) (.cond (.t 65) 
  (.seq 
  (.seq (.draw [m 66 11, o 67 (.idxSl (some 6) (.t 66) (.c (.i .i64 0))), o 68 (.fieldAddr 0 (some 4) (.t 67)), o 69 (.load (some 4) (.t 68)), o 70 (.fieldAddr 3 (some 4) (.t 8)), o 71 (.load (some 4) (.t 70)), o 72 (.call (.fn 64) [(.t 69), (.t 71)]), o 73 (.not (.t 72))]) (.cond (.t 73) 
  (.seq (.region [o 74 (.build [(.i .u8 0), (.i .i64 0), (.i .i64 0)] [(0, 1, (.c (.i .u8 2))), (1, 1, (.c (.i .i64 1)))]), o 6 (.mv (.c (.i .u8 6))), u (.store (some 3) (.t 7) (.t 74))]) .ret) .skip)) 
  (.seq (.region [o 75 (.build [(.i .u8 0), (.i .i64 0), (.i .i64 0)] []), o 6 (.mv (.c (.i .u8 0))), u (.store (some 3) (.t 7) (.t 75))]) .ret)) .skip)) 
  (.seq 
  (.seq (.region [o 77 (.load (some 6) (.t 10)), o 78 (.fieldAddr 3 (some 4) (.t 8)), o 79 (.load (some 4) (.t 78)), m 80 11, o 81 (.call (.fn 65) [(.t 77), (.t 79), (.t 80)]), m 76 81, o 82 (.extract (.t 76) 0), o 83 (.extract (.t 76) 1), o 84 (.extract (.t 76) 2), o 13 (.alloc (.ag [.nilsl, .nilsl])), o 14 (.alloc (.ag [(.i .u8 0), (.i .i64 0), (.i .i64 0)])), u (.store (some 2) (.t 13) (.t 82)), u (.store (some 3) (.t 14) (.t 83)), m 15 84]) 
  (.seq (.region [m 85 15, o 86 (.bin .neq (.t 85) (.c (.i .i64 0)))]) (.cond (.t 86) 
  (.seq (.draw [o 87 (.load (some 3) (.t 14)), o 6 (.mv (.c (.i .u8 6))), u (.store (some 3) (.t 7) (.t 87))]) .ret) .skip))) 
  (.seq (.region [o 88 (.build [(.i .u8 0), (.i .i64 0), (.i .i64 0)] []), o 6 (.mv (.c (.i .u8 0))), u (.store (some 3) (.t 7) (.t 88))]) .ret)))))))))))))⟩
def c37 : AFunc := ⟨1, 14, [(2, (some (some 4)))], (some 
  (.seq (.region [o 1 (.box (.t 0)), o 2 (.alloc (.ag [(.i .u8 0), (.s []), .nilsl, .nilsl]))]) 
  (.seq (.draw [o 3 (.fieldAddr 0 none (.t 1)), ⟨(some 4), .load none (.t 3), none, [9, 11]⟩, o 5 (.fieldAddr 1 none (.t 1)), ⟨(some 6), .load none (.t 5), none, [9, 11]⟩, o 7 (.fieldAddr 2 none (.t 1)), o 8 (.load none (.t 7)), o 10 (.fieldAddr 3 none (.t 1)), ⟨(some 11), .load none (.t 10), none, [9]⟩, o 9 (.call (.fn 66) [(.t 8), (.c (.f (.func 67) [] []))]), o 12 (.call (.fn 68) [(.t 11), (.c (.f (.func 37) [] []))]), o 13 (.build [(.i .u8 0), (.s []), .nilsl, .nilsl] [(0, 1, (.t 4)), (1, 1, (.t 6)), (2, 1, (.t 9)), (3, 1, (.t 12))]), u (.store (some 4) (.t 2) (.t 13))]) .ret)))⟩
def c38 : AFunc := ⟨1, 16, [(2, none)], (some 
  (.seq (.region [o 1 (.box (.t 0)), o 2 (.mv (.c (.b false)))]) 
  (.seq (.region [o 3 (.fieldAddr 0 none (.t 1)), o 4 (.load none (.t 3)), o 5 (.len 1 (.t 4)), o 6 (.bin .gtr (.t 5) (.c (.i .i64 0))), m 7 6, ⟨(some 8), .fieldAddr 5 none (.t 1), (some (7, false)), []⟩, ⟨(some 9), .load none (.t 8), (some (7, false)), []⟩, ⟨(some 10), .bin .neq (.t 9) (.c (.s [])), (some (7, false)), []⟩, o 11 (.pick (.t 7) (.c (.b true)) (.t 10)), m 12 11, ⟨(some 13), .fieldAddr 6 none (.t 1), (some (12, false)), []⟩, ⟨(some 14), .load none (.t 13), (some (12, false)), []⟩, o 15 (.pick (.t 12) (.c (.b true)) (.t 14)), m 2 15]) .ret)))⟩
def c39 : AFunc := ⟨3, 51, [(6, none)], (some 
  (.seq (.region [o 4 (.box (.t 1)), o 6 (.mv (.c .nilsl))]) 
  (.seq (.region [o 7 (.mv (.c .nilsl))]) 
  (.seq 
  (.seq (.region [o 10 (.fieldAddr 0 none (.t 4)), o 11 (.load none (.t 10)), m 8 11]) (.block 0 (.loop 
  (.seq 
  (.seq (.region [m 12 8, o 13 (.fieldAddr 1 none (.t 4)), o 14 (.load none (.t 13)), o 15 (.bin .leq (.t 12) (.t 14))]) (.cond (.t 15) .skip (.exit 0))) 
  (.seq (.block 1 
  (.seq (.region [m 18 0, o 19 (.nilCheck (.t 18)), o 20 (.fieldAddr 1 none (.t 19)), o 21 (.load none (.t 20)), m 22 8, o 23 (.bin .sub (.t 22) (.c (.i .i64 1))), o 24 (.idxSl (some 9) (.t 21) (.t 23)), o 25 (.load (some 9) (.t 24)), o 9 (.alloc (.ag [(.i .i64 0), (.i .i64 0), (.b false), (.i .u8 0), (.s []), .nilsl, .nilsl, (.s []), .nilsl])), u (.store (some 9) (.t 9) (.t 25))]) 
  (.seq 
  (.seq (.region [o 26 (.fieldAddr 2 none (.t 9)), o 27 (.load none (.t 26)), o 28 (.not (.t 27)), m 29 28, ⟨(some 30), .fieldAddr 0 none (.t 9), (some (29, false)), []⟩, ⟨(some 31), .load none (.t 30), (some (29, false)), []⟩, ⟨(some 32), .mv (.t 2), (some (29, false)), []⟩, ⟨(some 33), .bin .neq (.t 31) (.t 32), (some (29, false)), []⟩, o 34 (.pick (.t 29) (.c (.b true)) (.t 33)), m 35 34, ⟨(some 36), .mv (.t 8), (some (35, false)), []⟩, ⟨(some 37), .fieldAddr 0 none (.t 4), (some (35, false)), []⟩, ⟨(some 38), .load none (.t 37), (some (35, false)), []⟩, ⟨(some 39), .bin .gtr (.t 36) (.t 38), (some (35, false)), []⟩, ⟨(some 40), .mv (.t 39), (some (35, false)), []⟩, ⟨(some 41), .fieldAddr 1 none (.t 9), (some (40, true)), []⟩, ⟨(some 42), .load none (.t 41), (some (40, true)), []⟩, ⟨(some 43), .bin .gtr (.t 42) (.c (.i .i64 0)), (some (40, true)), []⟩, ⟨(some 44), .pick (.t 40) (.t 43) (.c (.b false)), (some (35, false)), []⟩, o 45 (.pick (.t 35) (.c (.b true)) (.t 44))]) (.cond (.t 45) (.exit 0) .skip)) (.region [m 46 7, m 47 8, o 48 (.buildSlice none 1 [(.i .i64 0)] [(0, (.t 47))]), o 49 (.append none 8 (.t 46) (.t 48)), m 7 49])))) (.region [m 16 8, o 17 (.bin .add (.t 16) (.c (.i .i64 1))), m 8 17])))))) 
  (.seq (.region [m 50 7, m 6 50]) .ret)))))⟩
def c40 : AFunc := ⟨1, 4, [(2, none)], (some (.seq (.region [o 1 (.box (.t 0)), o 2 (.mv (.c .nf))]) (.seq (.region [o 3 (.mkFunc (.func 69) [] [(.t 1)]), m 2 3]) .ret)))⟩
def c41 : AFunc := ⟨2, 34, [(4, none), (5, (some (some 5))), (6, none)], (some 
  (.seq (.region [o 2 (.box (.t 0)), o 3 (.box (.t 1)), o 4 (.mv (.c .nilsl)), o 5 (.alloc (.ag [.nilsl, (.i .u8 0), (.i .u8 0), (.i .i64 0), (.i .i64 0)])), o 6 (.mv (.c (.i .i64 0)))]) 
  (.seq (.region [o 11 (.load (some 5) (.t 2)), o 12 (.load (some 8) (.t 3)), o 13 (.call (.fn 71) [(.t 11), (.t 12)]), m 10 13, o 14 (.extract (.t 10) 0), o 15 (.extract (.t 10) 1), m 7 14, m 8 15]) 
  (.seq 
  (.seq (.region [m 16 8, o 17 (.bin .neq (.t 16) (.c (.i .i64 0)))]) (.cond (.t 17) 
  (.seq (.region [o 18 (.build [.nilsl, (.i .u8 0), (.i .u8 0), (.i .i64 0), (.i .i64 0)] []), m 19 8, o 4 (.mv (.c .nilsl)), u (.store (some 5) (.t 5) (.t 18)), m 6 19]) .ret) .skip)) 
  (.seq 
  (.seq (.region [m 20 7, o 21 (.len 1 (.t 20)), o 22 (.bin .gtr (.t 21) (.c (.i .i64 0)))]) (.cond (.t 22) 
  (.seq (.draw [m 23 7, o 24 (.idxSl (some 5) (.t 23) (.c (.i .i64 0))), o 25 (.load (some 5) (.t 24)), o 4 (.mv (.c .nilsl)), u (.store (some 5) (.t 5) (.t 25)), o 6 (.mv (.c (.i .i64 160)))]) .ret) .skip)) 
  (.seq (.region [o 27 (.load (some 8) (.t 3)), o 28 (.call (.fn 72) [(.t 27)]), m 26 28, o 29 (.extract (.t 26) 0), o 30 (.extract (.t 26) 1), m 9 29, m 8 30]) 
  (.seq (.region [m 31 9, o 32 (.build [.nilsl, (.i .u8 0), (.i .u8 0), (.i .i64 0), (.i .i64 0)] []), m 33 8, m 4 31, u (.store (some 5) (.t 5) (.t 32)), m 6 33]) .ret)))))))⟩
def c42 : AFunc := ⟨1, 8, [(2, none)], (some 
  (.seq (.region [o 2 (.mv (.c (.s [])))]) 
  (.seq (.region [m 3 0, o 4 (.call (.fn 75) [(.t 3)]), o 5 (.call (.fn 74) [(.t 4)]), o 6 (.buildSlice none 1 [(.m none)] [(0, (.t 5))]), o 7 (.call (.fn 73) [(.t 6)]), m 2 7]) .ret)))⟩
def c43 : AFunc := ⟨3, 54, [(6, none)], (some 
  (.seq (.region [o 4 (.box (.t 1)), o 6 (.mv (.c .nilsl))]) 
  (.seq 
  (.seq (.draw [m 12 0, o 13 (.nilCheck (.t 12)), o 14 (.fieldAddr 1 none (.t 13)), ⟨(some 15), .load none (.t 14), none, [11]⟩, o 16 (.fieldAddr 5 none (.t 4)), ⟨(some 17), .load none (.t 16), none, [11]⟩, ⟨(some 18), .lookup (.inl 0) (.t 15) (.t 17) (.ag [(.i .u8 0), (.s []), .nilsl, .nilsl]) true, none, [11]⟩, m 11 18, o 19 (.extract (.t 11) 0), o 20 (.extract (.t 11) 1), o 7 (.alloc (.ag [(.i .u8 0), (.s []), .nilsl, .nilsl])), u (.store (some 4) (.t 7) (.t 19)), m 8 20]) 
  (.seq (.region [o 21 (.fieldAddr 0 none (.t 4)), o 22 (.load none (.t 21)), o 23 (.bin .eql (.t 22) (.c (.s []))), m 24 23, ⟨(some 25), .mv (.t 8), (some (24, true)), []⟩, ⟨(some 26), .not (.t 25), (some (24, true)), []⟩, o 27 (.pick (.t 24) (.t 26) (.c (.b false)))]) (.cond (.t 27) (.draw [m 28 0, o 29 (.nilCheck (.t 28)), o 30 (.fieldAddr 1 none (.t 29)), o 31 (.load none (.t 30)), o 32 (.fieldAddr 5 none (.t 4)), o 33 (.load none (.t 32)), o 34 (.fieldAddr 1 (some 4) (.t 4)), o 35 (.load (some 4) (.t 34)), u (.mapUpd (.inl 0) (.t 31) (.t 33) (.t 35))]) .skip))) 
  (.seq (.region [m 36 2, o 37 (.fieldAddr 1 (some 4) (.t 4)), o 38 (.load (some 4) (.t 37)), o 39 (.call (.fn 76) [(.t 38)]), o 40 (.append none 16 (.t 36) (.t 39)), m 2 40]) 
  (.seq 
  (.seq (.region [o 41 (.fieldAddr 6 none (.t 4)), o 42 (.load none (.t 41)), o 43 (.len 1 (.t 42)), o 44 (.mv (.c (.i .i64 0)))]) (.block 0 (.loop 
  (.seq (.region [o 45 (.bin .lss (.t 44) (.t 43))]) 
  (.seq (.cond (.t 45) .skip (.exit 0)) 
  (.seq (.block 1 
  (.seq (.region [o 46 (.idxSl (some 8) (.t 42) (.t 44)), o 47 (.load (some 8) (.t 46)), o 10 (.alloc (.ag [(.s []), (.i .u8 0), (.s []), .nilsl, .nilsl, (.i .i64 0), .nilsl, .nilsl])), u (.store (some 8) (.t 10) (.t 47))]) (.region [m 48 0, o 49 (.load (some 8) (.t 10)), m 50 2, o 51 (.call (.fn 43) [(.t 48), (.t 49), (.t 50)]), m 2 51]))) (.region [o 52 (.bin .add (.t 44) (.c (.i .i64 1))), m 44 52]))))))) 
  (.seq (.region [m 53 2, m 6 53]) .ret))))))⟩
def c44 : AFunc := ⟨2, 32, [(4, none)], (some 
  (.seq (.region [o 3 (.box (.t 1)), o 4 (.mv (.c (.i .i64 0)))]) 
  (.seq (.region [m 5 0, m 6 0, o 7 (.nilCheck (.t 6)), o 8 (.fieldAddr 7 none (.t 7)), o 9 (.load none (.t 8)), o 10 (.fieldAddr 1 none (.t 3)), u (.store none (.t 10) (.t 9)), o 11 (.nilCheck (.t 5)), o 12 (.fieldAddr 7 none (.t 11)), u (.store none (.t 12) (.c (.i .i64 0)))]) 
  (.seq (.region [o 13 (.fieldAddr 3 (some 4) (.t 3)), o 14 (.load (some 4) (.t 13)), o 15 (.call (.fn 37) [(.t 14)]), o 16 (.fieldAddr 3 (some 4) (.t 3)), u (.store (some 4) (.t 16) (.t 15))]) 
  (.seq (.draw [m 17 0, m 18 0, o 19 (.nilCheck (.t 18)), o 20 (.fieldAddr 5 none (.t 19)), ⟨(some 21), .load none (.t 20), none, [7]⟩, ⟨(some 22), .load (some 9) (.t 3), none, [7]⟩, o 23 (.buildSlice (some 9) 1 [(.i .i64 0), (.i .i64 0), (.b false), (.i .u8 0), (.s []), .nilsl, .nilsl, (.s []), .nilsl] [(0, (.t 22))]), o 24 (.append (some 9) 136 (.t 21) (.t 23)), o 25 (.nilCheck (.t 17)), o 26 (.fieldAddr 5 none (.t 25)), u (.store none (.t 26) (.t 24))]) 
  (.seq (.region [m 27 0, o 28 (.nilCheck (.t 27)), o 29 (.fieldAddr 5 none (.t 28)), o 30 (.load none (.t 29)), o 31 (.len 1 (.t 30)), m 4 31]) .ret))))))⟩
def c45 : AFunc := ⟨3, 81, [(6, none)], (some 
  (.seq (.region [o 4 (.box (.t 1)), o 6 (.mv (.c (.i .i64 0)))]) 
  (.seq 
  (.seq (.region [o 13 (.fieldAddr 0 none (.t 4)), o 14 (.load none (.t 13)), o 15 (.bin .eql (.t 14) (.c (.s [])))]) (.cond (.t 15) 
  (.seq (.draw [m 16 0, o 17 (.nilCheck (.t 16)), o 18 (.fieldAddr 6 none (.t 17)), o 19 (.load none (.t 18)), o 20 (.fieldAddr 5 none (.t 4)), o 21 (.load none (.t 20)), o 22 (.lookup (.inl 0) (.t 19) (.t 21) .nilsl false), m 7 22]) 
  (.seq (.region [m 23 7, m 24 7, o 25 (.len 1 (.t 24)), o 26 (.bin .sub (.t 25) (.c (.i .i64 1))), o 27 (.idxSl none (.t 23) (.t 26)), o 28 (.load none (.t 27)), m 6 28]) .ret)) .skip)) 
  (.seq (.draw [m 29 0, o 30 (.nilCheck (.t 29)), o 31 (.fieldAddr 0 none (.t 30)), ⟨(some 32), .load none (.t 31), none, [8]⟩, o 33 (.fieldAddr 0 none (.t 4)), ⟨(some 34), .load none (.t 33), none, [8]⟩, ⟨(some 35), .lookup (.inl 1) (.t 32) (.t 34) (.ag [(.s []), .nilsl, (.i .u8 0), (.s []), .nilsl, .nilsl]) false, none, [8]⟩, o 8 (.alloc (.ag [(.s []), .nilsl, (.i .u8 0), (.s []), .nilsl, .nilsl])), u (.store (some 6) (.t 8) (.t 35))]) 
  (.seq (.region [o 9 (.mv (.c .nilsl))]) 
  (.seq 
  (.seq (.region [o 36 (.fieldAddr 6 none (.t 4)), o 37 (.load none (.t 36)), o 38 (.len 1 (.t 37)), o 39 (.mv (.c (.i .i64 0)))]) (.block 0 (.loop 
  (.seq (.region [o 40 (.bin .lss (.t 39) (.t 38))]) 
  (.seq (.cond (.t 40) .skip (.exit 0)) 
  (.seq (.block 1 
  (.seq (.region [m 41 39, o 42 (.idxSl (some 8) (.t 37) (.t 39)), o 43 (.load (some 8) (.t 42)), o 11 (.alloc (.ag [(.s []), (.i .u8 0), (.s []), .nilsl, .nilsl, (.i .i64 0), .nilsl, .nilsl])), m 10 41, u (.store (some 8) (.t 11) (.t 43))]) 
  (.seq 
  (.seq (.region [o 44 (.fieldAddr 1 none (.t 8)), o 45 (.load none (.t 44)), m 46 10, o 47 (.idxSl (some 7) (.t 45) (.t 46)), o 48 (.load (some 7) (.t 47)), o 49 (.call (.fn 38) [(.t 48)])]) (.cond (.t 49) 
  (.seq (.region [m 50 9, m 51 0, o 52 (.load (some 8) (.t 4)), m 53 10, m 54 2, o 55 (.bin .add (.t 54) (.c (.i .i64 1))), m 56 0, o 57 (.mkFunc (.func 45) [(.t 56)] []), o 58 (.call (.fn 77) [(.t 51), (.t 52), (.t 53), (.t 55), (.t 57)]), o 59 (.buildSlice (some 2) 1 [(.i .i64 0), (.i .i64 0)] [(0, (.t 58))]), o 60 (.append (some 2) 16 (.t 50) (.t 59)), m 9 60]) (.exit 1)) .skip)) 
  (.seq (.region [m 61 0, o 62 (.load (some 8) (.t 11)), m 63 2, o 64 (.call (.fn 45) [(.t 61), (.t 62), (.t 63)]), m 12 64]) (.region [m 65 9, m 66 12, m 67 12, o 68 (.build [(.i .i64 0), (.i .i64 0)] [(0, 1, (.t 66)), (1, 1, (.t 67))]), o 69 (.buildSlice (some 2) 1 [(.i .i64 0), (.i .i64 0)] [(0, (.t 68))]), o 70 (.append (some 2) 16 (.t 65) (.t 69)), m 9 70]))))) (.region [o 71 (.bin .add (.t 39) (.c (.i .i64 1))), m 39 71]))))))) 
  (.seq (.region [m 72 0, m 73 2, o 74 (.fieldAddr 1 (some 4) (.t 4)), o 75 (.load (some 4) (.t 74)), o 76 (.fieldAddr 0 none (.t 4)), o 77 (.load none (.t 76)), m 78 9, o 79 (.build [(.i .i64 0), (.i .i64 0), (.b false), (.i .u8 0), (.s []), .nilsl, .nilsl, (.s []), .nilsl] [(0, 1, (.t 73)), (3, 4, (.t 75)), (7, 1, (.t 77)), (8, 1, (.t 78))]), o 80 (.call (.fn 44) [(.t 72), (.t 79)]), m 6 80]) .ret)))))))⟩
def c46 : AFunc := ⟨2, 31, [(4, none)], (some 
  (.seq (.region [o 2 (.box (.t 0)), o 3 (.box (.t 1)), o 4 (.mv (.c (.b false)))]) 
  (.seq (.region [o 5 (.fieldAddr 0 none (.t 2)), o 6 (.load none (.t 5)), o 7 (.fieldAddr 0 none (.t 3)), o 8 (.load none (.t 7)), o 9 (.bin .eql (.t 6) (.t 8)), m 10 9, ⟨(some 11), .fieldAddr 1 none (.t 2), (some (10, true)), []⟩, ⟨(some 12), .load none (.t 11), (some (10, true)), []⟩, ⟨(some 13), .fieldAddr 1 none (.t 3), (some (10, true)), []⟩, ⟨(some 14), .load none (.t 13), (some (10, true)), []⟩, ⟨(some 15), .bin .eql (.t 12) (.t 14), (some (10, true)), []⟩, o 16 (.pick (.t 10) (.t 15) (.c (.b false))), m 17 16, ⟨(some 18), .fieldAddr 2 none (.t 2), (some (17, true)), []⟩, ⟨(some 19), .load none (.t 18), (some (17, true)), []⟩, ⟨(some 20), .fieldAddr 2 none (.t 3), (some (17, true)), []⟩, ⟨(some 21), .load none (.t 20), (some (17, true)), []⟩, ⟨(some 22), .call (.fn 78) [(.t 19), (.t 21)], (some (17, true)), []⟩, o 23 (.pick (.t 17) (.t 22) (.c (.b false))), m 24 23, ⟨(some 25), .fieldAddr 3 none (.t 2), (some (24, true)), []⟩, ⟨(some 26), .load none (.t 25), (some (24, true)), []⟩, ⟨(some 27), .fieldAddr 3 none (.t 3), (some (24, true)), []⟩, ⟨(some 28), .load none (.t 27), (some (24, true)), []⟩, ⟨(some 29), .call (.fn 79) [(.t 26), (.t 28)], (some (24, true)), []⟩, o 30 (.pick (.t 24) (.t 29) (.c (.b false))), m 4 30]) .ret)))⟩
def c47 : AFunc := ⟨1, 25, [(2, (some (some 4))), (3, none), (4, none)], (some 
  (.seq (.region [o 2 (.alloc (.ag [(.i .u8 0), (.s []), .nilsl, .nilsl])), o 3 (.mv (.c (.i .i64 0))), o 4 (.mv (.c (.i .i64 0)))]) 
  (.seq (.region [m 9 0, o 10 (.call (.fn 80) [(.t 9), (.c (.b true)), (.c (.f (.func 81) [] []))]), m 8 10, o 11 (.extract (.t 8) 0), o 12 (.extract (.t 8) 1), o 13 (.extract (.t 8) 2), o 5 (.alloc (.ag [(.i .u8 0), (.s []), .nilsl, .nilsl])), u (.store (some 4) (.t 5) (.t 11)), m 6 12, m 7 13]) 
  (.seq 
  (.seq (.region [m 14 7, o 15 (.bin .eql (.t 14) (.c (.i .i64 0))), m 16 15, ⟨(some 17), .load (some 4) (.t 5), (some (16, true)), []⟩, ⟨(some 18), .call (.fn 82) [(.t 17)], (some (16, true)), []⟩, ⟨(some 19), .not (.t 18), (some (16, true)), []⟩, o 20 (.pick (.t 16) (.t 19) (.c (.b false)))]) (.cond (.t 20) 
  (.seq (.region [o 21 (.build [(.i .u8 0), (.s []), .nilsl, .nilsl] []), u (.store (some 4) (.t 2) (.t 21)), o 3 (.mv (.c (.i .i64 0))), o 4 (.mv (.c (.i .i64 3)))]) .ret) .skip)) 
  (.seq (.region [o 22 (.load (some 4) (.t 5)), m 23 6, m 24 7, u (.store (some 4) (.t 2) (.t 22)), m 3 23, m 4 24]) .ret)))))⟩
def c48 : AFunc := ⟨2, 47, [], (some 
  (.seq (.region [o 3 (.mv (.c (.i .i64 0))), o 4 (.mv (.c (.b false)))]) 
  (.seq (.region [o 5 (.mv (.c (.i .i64 0)))]) (.block 0 (.loop 
  (.seq 
  (.seq (.region [m 6 5, o 7 (.load none (.t 1)), o 8 (.len 0 (.t 7)), o 9 (.bin .leq (.t 6) (.t 8))]) (.cond (.t 9) .skip (.exit 0))) 
  (.seq (.block 1 (.block 2 
  (.seq (.region [m 13 5, o 14 (.load none (.t 1)), o 15 (.len 0 (.t 14)), o 16 (.bin .eql (.t 13) (.t 15)), m 17 16, ⟨(some 18), .load none (.t 1), (some (17, false)), []⟩, ⟨(some 19), .mv (.t 5), (some (17, false)), []⟩, ⟨(some 20), .indexStr (.t 18) (.t 19), (some (17, false)), []⟩, ⟨(some 21), .bin .eql (.t 20) (.c (.i .u8 59)), (some (17, false)), []⟩, ⟨(some 22), .mv (.t 21), (some (17, false)), []⟩, ⟨(some 23), .mv (.t 4), (some (22, true)), []⟩, ⟨(some 24), .not (.t 23), (some (22, true)), []⟩, ⟨(some 25), .pick (.t 22) (.t 24) (.c (.b false)), (some (17, false)), []⟩, o 26 (.pick (.t 17) (.c (.b true)) (.t 25)), m 12 26]) (.cond (.t 12) 
  (.seq 
  (.seq (.region [m 27 0, o 28 (.load none (.t 1)), m 29 3, m 30 5, o 31 (.sliceStr (.t 28) (some (.t 29)) (some (.t 30))), o 32 (.call (.fn 49) [(.t 31)]), o 33 (.call (.val (.t 27)) [(.t 32)]), o 34 (.not (.t 33))]) (.cond (.t 34) .ret .skip)) (.region [m 35 5, o 36 (.bin .add (.t 35) (.c (.i .i64 1))), m 3 36])) 
  (.seq (.region [o 38 (.load none (.t 1)), m 39 5, o 40 (.indexStr (.t 38) (.t 39)), o 41 (.bin .eql (.t 40) (.c (.i .u8 123))), m 37 41]) (.cond (.t 37) (.region [o 4 (.mv (.c (.b true)))]) 
  (.seq (.region [o 43 (.load none (.t 1)), m 44 5, o 45 (.indexStr (.t 43) (.t 44)), o 46 (.bin .eql (.t 45) (.c (.i .u8 125))), m 42 46]) (.cond (.t 42) (.region [o 4 (.mv (.c (.b false)))]) .skip)))))))) (.region [m 10 5, o 11 (.bin .add (.t 10) (.c (.i .i64 1))), m 5 11]))))))))⟩
def c49 : AFunc := ⟨1, 54, [(2, none)], (some 
  (.seq (.region [o 2 (.mv (.c (.s [])))]) 
  (.seq 
  (.seq (.region [m 7 0, o 8 (.strToBytes (.t 7)), o 9 (.len 1 (.t 8)), o 10 (.mv (.c (.i .i64 0)))]) (.block 0 (.loop 
  (.seq (.region [o 11 (.bin .lss (.t 10) (.t 9))]) 
  (.seq (.cond (.t 11) .skip (.exit 0)) 
  (.seq (.block 1 
  (.seq (.region [m 12 10, o 13 (.idxSl none (.t 8) (.t 10)), o 14 (.load none (.t 13)), m 3 12, m 4 14]) 
  (.seq 
  (.seq (.region [m 15 4, o 16 (.bin .geq (.t 15) (.c (.i .u8 128)))]) (.cond (.t 16) 
  (.seq (.region [m 17 0, m 18 3, o 19 (.sliceStr (.t 17) (some (.t 18)) none), o 20 (.call (.fn 83) [(.t 19), (.c (.f (.func 84) [] []))]), m 2 20]) .ret) .skip)) 
  (.seq 
  (.seq (.region [m 21 4, o 22 (.idxArr 256 none (.g 0) (.t 21)), o 23 (.load none (.t 22)), o 24 (.bin .neq (.t 23) (.c (.i .u8 0)))]) (.cond (.t 24) (.exit 1) .skip)) 
  (.seq (.region [m 25 0, m 26 3, o 27 (.sliceStr (.t 25) (some (.t 26)) none), m 0 27]) 
  (.seq (.region [m 28 0, o 29 (.len 0 (.t 28)), o 30 (.bin .sub (.t 29) (.c (.i .i64 1))), m 5 30]) (.block 2 (.loop 
  (.seq 
  (.seq (.region [m 31 5, o 32 (.bin .geq (.t 31) (.c (.i .i64 0)))]) (.cond (.t 32) .skip (.exit 2))) 
  (.seq (.block 3 
  (.seq (.region [m 35 0, m 36 5, o 37 (.indexStr (.t 35) (.t 36)), m 6 37]) 
  (.seq 
  (.seq (.region [m 38 6, o 39 (.bin .geq (.t 38) (.c (.i .u8 128)))]) (.cond (.t 39) 
  (.seq (.region [m 40 0, m 41 5, o 42 (.bin .add (.t 41) (.c (.i .i64 1))), o 43 (.sliceStr (.t 40) none (some (.t 42))), o 44 (.call (.fn 85) [(.t 43), (.c (.f (.func 84) [] []))]), m 2 44]) .ret) .skip)) 
  (.seq (.region [m 45 6, o 46 (.idxArr 256 none (.g 0) (.t 45)), o 47 (.load none (.t 46)), o 48 (.bin .eql (.t 47) (.c (.i .u8 0)))]) (.cond (.t 48) 
  (.seq (.region [m 49 0, m 50 5, o 51 (.bin .add (.t 50) (.c (.i .i64 1))), o 52 (.sliceStr (.t 49) none (some (.t 51))), m 2 52]) .ret) .skip))))) (.region [m 33 5, o 34 (.bin .sub (.t 33) (.c (.i .i64 1))), m 5 34]))))))))))) (.region [o 53 (.bin .add (.t 10) (.c (.i .i64 1))), m 10 53]))))))) 
  (.seq (.region [o 2 (.mv (.c (.s [])))]) .ret))))⟩
def c50 : AFunc := ⟨2, 11, [(4, none), (5, none)], (some 
  (.seq (.region [o 4 (.mv (.c (.s []))), o 5 (.mv (.c (.b false)))]) 
  (.seq (.region [m 6 0, m 7 1, o 8 (.call (.fn 86) [(.t 6), (.t 7)]), o 9 (.extract (.t 8) 0), o 10 (.extract (.t 8) 1), m 4 9, m 5 10]) .ret)))⟩
def c51 : AFunc := ⟨2, 13, [(4, none), (5, none), (6, none)], (some 
  (.seq (.region [o 4 (.mv (.c (.s []))), o 5 (.mv (.c (.s []))), o 6 (.mv (.c (.b false)))]) 
  (.seq (.region [m 7 0, m 8 1, o 9 (.call (.fn 87) [(.t 7), (.t 8)]), o 10 (.extract (.t 9) 0), o 11 (.extract (.t 9) 1), o 12 (.extract (.t 9) 2), m 4 10, m 5 11, m 6 12]) .ret)))⟩
def c52 : AFunc := ⟨2, 8, [(4, none)], (some (.seq (.region [o 4 (.mv (.c .nf))]) (.seq (.region [m 5 0, m 6 1, o 7 (.call (.fn 88) [(.t 5), (.t 6), (.c (.i .i64 0))]), m 4 7]) .ret)))⟩
def c53 : AFunc := ⟨1, 51, [(2, none)], (some 
  (.seq (.region [o 2 (.mv (.c (.b false)))]) 
  (.seq 
  (.seq (.region [m 6 0, o 7 (.len 0 (.t 6)), o 8 (.bin .lss (.t 7) (.c (.i .i64 1))), m 9 8, ⟨(some 10), .mv (.t 0), (some (9, false)), []⟩, ⟨(some 11), .len 0 (.t 10), (some (9, false)), []⟩, ⟨(some 12), .bin .gtr (.t 11) (.c (.i .i64 16)), (some (9, false)), []⟩, o 13 (.pick (.t 9) (.c (.b true)) (.t 12))]) (.cond (.t 13) 
  (.seq (.region [o 2 (.mv (.c (.b false)))]) .ret) .skip)) 
  (.seq 
  (.seq (.region [o 3 (.mv (.c (.i .i64 0)))]) (.block 0 (.loop 
  (.seq 
  (.seq (.region [m 14 3, m 15 0, o 16 (.len 0 (.t 15)), o 17 (.bin .lss (.t 14) (.t 16))]) (.cond (.t 17) .skip (.exit 0))) 
  (.seq (.block 1 
  (.seq (.region [m 20 0, m 21 3, o 22 (.indexStr (.t 20) (.t 21)), m 4 22]) 
  (.seq (.region [m 23 4, o 24 (.bin .geq (.t 23) (.c (.i .u8 97))), m 25 24, ⟨(some 26), .mv (.t 4), (some (25, true)), []⟩, ⟨(some 27), .bin .leq (.t 26) (.c (.i .u8 122)), (some (25, true)), []⟩, o 28 (.pick (.t 25) (.t 27) (.c (.b false))), m 29 28, ⟨(some 30), .mv (.t 4), (some (29, false)), []⟩, ⟨(some 31), .bin .geq (.t 30) (.c (.i .u8 65)), (some (29, false)), []⟩, ⟨(some 32), .mv (.t 31), (some (29, false)), []⟩, ⟨(some 33), .mv (.t 4), (some (32, true)), []⟩, ⟨(some 34), .bin .leq (.t 33) (.c (.i .u8 90)), (some (32, true)), []⟩, ⟨(some 35), .pick (.t 32) (.t 34) (.c (.b false)), (some (29, false)), []⟩, o 36 (.pick (.t 29) (.c (.b true)) (.t 35)), m 5 36]) 
  (.seq (.region [m 37 5, o 38 (.not (.t 37)), m 39 38, ⟨(some 40), .mv (.t 3), (some (39, true)), []⟩, ⟨(some 41), .bin .eql (.t 40) (.c (.i .i64 0)), (some (39, true)), []⟩, ⟨(some 42), .mv (.t 41), (some (39, true)), []⟩, ⟨(some 43), .mv (.t 4), (some (42, false)), []⟩, ⟨(some 44), .bin .lss (.t 43) (.c (.i .u8 48)), (some (42, false)), []⟩, ⟨(some 45), .pick (.t 42) (.c (.b true)) (.t 44), (some (39, true)), []⟩, ⟨(some 46), .mv (.t 45), (some (39, true)), []⟩, ⟨(some 47), .mv (.t 4), (some (46, false)), []⟩, ⟨(some 48), .bin .gtr (.t 47) (.c (.i .u8 57)), (some (46, false)), []⟩, ⟨(some 49), .pick (.t 46) (.c (.b true)) (.t 48), (some (39, true)), []⟩, o 50 (.pick (.t 39) (.t 49) (.c (.b false)))]) (.cond (.t 50) 
  (.seq (.region [o 2 (.mv (.c (.b false)))]) .ret) .skip))))) (.region [m 18 3, o 19 (.bin .add (.t 18) (.c (.i .i64 1))), m 3 19])))))) 
  (.seq (.region [o 2 (.mv (.c (.b true)))]) .ret)))))⟩
def c54 : AFunc := ⟨1, 76, [(2, (some none))], (some 
  (.seq (.region [o 1 (.box (.t 0)), o 2 (.alloc (.b false))]) 
  (.seq 
  (.seq (.region [o 10 (.fieldAddr 0 none (.t 1)), o 11 (.load none (.t 10)), o 12 (.call (.fn 89) [(.t 11)]), o 13 (.not (.t 12)), m 14 13, ⟨(some 15), .fieldAddr 1 none (.t 1), (some (14, false)), []⟩, ⟨(some 16), .load none (.t 15), (some (14, false)), []⟩, ⟨(some 17), .len 1 (.t 16), (some (14, false)), []⟩, ⟨(some 18), .bin .gtr (.t 17) (.c (.i .i64 4)), (some (14, false)), []⟩, o 19 (.pick (.t 14) (.c (.b true)) (.t 18)), m 20 19, ⟨(some 21), .fieldAddr 2 (some 4) (.t 1), (some (20, false)), []⟩, ⟨(some 22), .load (some 4) (.t 21), (some (20, false)), []⟩, ⟨(some 23), .call (.fn 82) [(.t 22)], (some (20, false)), []⟩, ⟨(some 24), .not (.t 23), (some (20, false)), []⟩, o 25 (.pick (.t 20) (.c (.b true)) (.t 24))]) (.cond (.t 25) 
  (.seq (.region [u (.store none (.t 2) (.c (.b false)))]) .ret) .skip)) 
  (.seq (.region [o 26 (.mkMap), o 3 (.alloc (.m none)), u (.store none (.t 3) (.t 26))]) 
  (.seq (.region [o 27 (.fieldAddr 2 (some 4) (.t 1)), o 28 (.load (some 4) (.t 27)), o 29 (.load none (.t 3)), o 30 (.call (.fn 90) [(.t 28), (.t 29)])]) 
  (.seq 
  (.seq (.region [o 31 (.fieldAddr 1 none (.t 1)), o 32 (.load none (.t 31)), o 33 (.len 1 (.t 32)), o 34 (.mv (.c (.i .i64 0)))]) (.block 0 (.loop 
  (.seq (.region [o 35 (.bin .lss (.t 34) (.t 33))]) 
  (.seq (.cond (.t 35) .skip (.exit 0)) 
  (.seq (.block 1 
  (.seq (.region [o 36 (.idxSl (some 7) (.t 32) (.t 34)), o 37 (.load (some 7) (.t 36)), o 5 (.alloc (.ag [.nilsl, (.i .u8 0), (.s []), .nilsl, .nilsl, (.s []), (.b false)])), u (.store (some 7) (.t 5) (.t 37))]) 
  (.seq 
  (.seq (.region [o 38 (.fieldAddr 0 none (.t 5)), o 39 (.load none (.t 38)), o 40 (.len 1 (.t 39)), o 41 (.bin .gtr (.t 40) (.c (.i .i64 3)))]) (.cond (.t 41) 
  (.seq (.region [u (.store none (.t 2) (.c (.b false)))]) .ret) .skip)) 
  (.seq 
  (.seq (.region [o 42 (.load (some 7) (.t 5)), o 43 (.call (.fn 91) [(.t 42)])]) (.block 2 (.rangeFunc (.t 43) [44] (.region [o 6 (.alloc (.ag [(.i .u8 0), (.s []), .nilsl, .nilsl])), u (.store (some 4) (.t 6) (.t 44))]) (.block 3 
  (.seq (.region [o 45 (.load (some 4) (.t 6)), o 46 (.call (.fn 82) [(.t 45)]), o 47 (.not (.t 46))]) (.cond (.t 47) 
  (.seq (.region [u (.store none (.t 2) (.c (.b false)))]) .ret) .skip)))))) 
  (.seq 
  (.seq (.region [o 48 (.load (some 7) (.t 5)), o 49 (.call (.fn 92) [(.t 48)]), o 50 (.not (.t 49))]) (.cond (.t 50) 
  (.seq (.region [u (.store none (.t 2) (.c (.b false)))]) .ret) .skip)) (.region [o 51 (.fieldAddr 1 (some 4) (.t 5)), o 52 (.load (some 4) (.t 51)), o 53 (.load none (.t 3)), o 54 (.call (.fn 90) [(.t 52), (.t 53)])])))))) (.region [o 55 (.bin .add (.t 34) (.c (.i .i64 1))), m 34 55]))))))) 
  (.seq 
  (.seq (.region [o 56 (.fieldAddr 2 (some 4) (.t 1)), o 57 (.load (some 4) (.t 56)), o 58 (.load none (.t 3)), o 59 (.call (.fn 93) [(.t 57), (.t 58)]), o 60 (.not (.t 59))]) (.cond (.t 60) 
  (.seq (.region [u (.store none (.t 2) (.c (.b false)))]) .ret) .skip)) 
  (.seq 
  (.seq (.region [o 61 (.fieldAddr 1 none (.t 1)), o 62 (.load none (.t 61)), o 63 (.len 1 (.t 62)), o 64 (.mv (.c (.i .i64 0)))]) (.block 4 (.loop 
  (.seq (.region [o 65 (.bin .lss (.t 64) (.t 63))]) 
  (.seq (.cond (.t 65) .skip (.exit 4)) 
  (.seq (.block 5 
  (.seq (.region [o 66 (.idxSl (some 7) (.t 62) (.t 64)), o 67 (.load (some 7) (.t 66)), o 8 (.alloc (.ag [.nilsl, (.i .u8 0), (.s []), .nilsl, .nilsl, (.s []), (.b false)])), u (.store (some 7) (.t 8) (.t 67))]) 
  (.seq (.region [o 68 (.load (some 7) (.t 8)), o 69 (.call (.fn 91) [(.t 68)])]) (.block 6 (.rangeFunc (.t 69) [70] (.region [o 9 (.alloc (.ag [(.i .u8 0), (.s []), .nilsl, .nilsl])), u (.store (some 4) (.t 9) (.t 70))]) (.block 7 
  (.seq (.region [o 71 (.load (some 4) (.t 9)), o 72 (.load none (.t 3)), o 73 (.call (.fn 93) [(.t 71), (.t 72)]), o 74 (.not (.t 73))]) (.cond (.t 74) 
  (.seq (.region [u (.store none (.t 2) (.c (.b false)))]) .ret) .skip)))))))) (.region [o 75 (.bin .add (.t 64) (.c (.i .i64 1))), m 64 75]))))))) 
  (.seq (.region [u (.store none (.t 2) (.c (.b true)))]) .ret)))))))))⟩
def c55 : AFunc := ⟨2, 42, [(4, none)], (some 
  (.seq (.region [o 2 (.box (.t 0)), o 4 (.mv (.c (.b false)))]) 
  (.seq (.region [o 10 (.fieldAddr 2 (some 4) (.t 2)), o 11 (.load (some 4) (.t 10)), o 12 (.call (.fn 94) [(.t 11)]), m 5 12]) 
  (.seq 
  (.seq (.region [o 13 (.fieldAddr 1 none (.t 2)), o 14 (.load none (.t 13)), o 15 (.len 1 (.t 14)), o 16 (.mv (.c (.i .i64 0)))]) (.block 0 (.loop 
  (.seq (.region [o 17 (.bin .lss (.t 16) (.t 15))]) 
  (.seq (.cond (.t 17) .skip (.exit 0)) 
  (.seq (.block 1 
  (.seq (.region [o 18 (.idxSl (some 7) (.t 14) (.t 16)), o 19 (.load (some 7) (.t 18)), o 7 (.alloc (.ag [.nilsl, (.i .u8 0), (.s []), .nilsl, .nilsl, (.s []), (.b false)])), u (.store (some 7) (.t 7) (.t 19))]) 
  (.seq (.region [m 20 5, o 21 (.fieldAddr 1 (some 4) (.t 7)), o 22 (.load (some 4) (.t 21)), o 23 (.call (.fn 94) [(.t 22)]), o 24 (.bin .or (.t 20) (.t 23)), m 5 24]) 
  (.seq (.region [o 25 (.fieldAddr 0 none (.t 7)), o 26 (.load none (.t 25)), o 27 (.len 1 (.t 26)), o 28 (.mv (.c (.i .i64 0)))]) (.block 2 (.loop 
  (.seq (.region [o 29 (.bin .lss (.t 28) (.t 27))]) 
  (.seq (.cond (.t 29) .skip (.exit 2)) 
  (.seq (.block 3 
  (.seq (.region [o 30 (.idxSl (some 4) (.t 26) (.t 28)), o 31 (.load (some 4) (.t 30)), o 9 (.alloc (.ag [(.i .u8 0), (.s []), .nilsl, .nilsl])), u (.store (some 4) (.t 9) (.t 31))]) (.region [m 32 5, o 33 (.load (some 4) (.t 9)), o 34 (.call (.fn 94) [(.t 33)]), o 35 (.bin .or (.t 32) (.t 34)), m 5 35]))) (.region [o 36 (.bin .add (.t 28) (.c (.i .i64 1))), m 28 36])))))))))) (.region [o 37 (.bin .add (.t 16) (.c (.i .i64 1))), m 16 37]))))))) 
  (.seq (.region [m 38 5, m 39 1, o 40 (.bin .andNot (.t 38) (.t 39)), o 41 (.bin .eql (.t 40) (.c (.i .u32 0))), m 4 41]) .ret)))))⟩
def c56 : AFunc := ⟨1, 4, [(2, none)], (some (.seq (.region [o 1 (.box (.t 0)), o 2 (.mv (.c .nf))]) (.seq (.region [o 3 (.mkFunc (.func 95) [] [(.t 1)]), m 2 3]) .ret)))⟩
def c57 : AFunc := ⟨1, 8, [(2, none)], (some 
  (.seq (.region [o 2 (.mv (.c .nilsl))]) 
  (.seq 
  (.seq (.region [m 3 0, o 4 (.eqNil 3 false (.t 3) (.c .nilsl))]) (.cond (.t 4) 
  (.seq (.region [o 2 (.mv (.c .nilsl))]) .ret) .skip)) 
  (.seq (.region [o 5 (.buildSlice none 0 [(.i .i64 0)] []), m 6 0, o 7 (.append none 8 (.t 5) (.t 6)), m 2 7]) .ret))))⟩
def c58 : AFunc := ⟨2, 83, [(4, none)], (some 
  (.seq (.region [o 4 (.mv (.c .nilsl))]) 
  (.seq 
  (.seq (.region [m 14 0, o 15 (.nilCheck (.t 14)), o 16 (.fieldAddr 0 none (.t 15)), o 17 (.load none (.t 16)), m 18 1, o 19 (.bin .sub (.t 18) (.c (.i .i64 1))), o 20 (.idxSl (some 9) (.t 17) (.t 19)), o 21 (.fieldAddr 2 none (.t 20)), o 22 (.load none (.t 21))]) (.cond (.t 22) 
  (.seq (.region [m 23 1, o 24 (.buildSlice none 1 [(.i .i64 0)] [(0, (.t 23))]), m 4 24]) .ret) .skip)) 
  (.seq (.region [m 25 1, o 26 (.mkSlice none 1 [(.b false)] (.t 25) (.t 25)), m 5 26]) 
  (.seq 
  (.seq (.region [m 27 0, o 28 (.nilCheck (.t 27)), o 29 (.fieldAddr 0 none (.t 28)), o 30 (.load none (.t 29)), m 31 1, o 32 (.bin .sub (.t 31) (.c (.i .i64 1))), o 33 (.idxSl (some 9) (.t 30) (.t 32)), o 34 (.fieldAddr 8 none (.t 33)), o 35 (.load none (.t 34)), o 36 (.len 1 (.t 35)), o 37 (.mv (.c (.i .i64 0)))]) (.block 0 (.loop 
  (.seq (.region [o 38 (.bin .lss (.t 37) (.t 36))]) 
  (.seq (.cond (.t 38) .skip (.exit 0)) 
  (.seq (.block 1 
  (.seq (.region [o 39 (.idxSl (some 2) (.t 35) (.t 37)), o 40 (.load (some 2) (.t 39)), o 7 (.alloc (.ag [(.i .i64 0), (.i .i64 0)])), u (.store (some 2) (.t 7) (.t 40))]) 
  (.seq (.draw [m 41 0, o 42 (.nilCheck (.t 41)), o 43 (.fieldAddr 2 none (.t 42)), o 44 (.load none (.t 43)), o 45 (.fieldAddr 1 none (.t 7)), o 46 (.load none (.t 45)), o 47 (.bin .sub (.t 46) (.c (.i .i64 1))), o 48 (.idxSl none (.t 44) (.t 47)), o 49 (.load none (.t 48)), m 8 49]) 
  (.seq 
  (.seq (.region [m 50 0, m 51 1, o 52 (.load (some 2) (.t 7)), o 53 (.call (.fn 96) [(.t 50), (.t 51), (.t 52)])]) (.cond (.t 53) (.region [m 54 0, m 55 1, o 56 (.load (some 2) (.t 7)), o 57 (.call (.fn 97) [(.t 54), (.t 55), (.t 56)]), m 8 57]) .skip)) 
  (.seq (.region [m 58 8, o 59 (.len 1 (.t 58)), o 60 (.mv (.c (.i .i64 0)))]) (.block 2 (.loop 
  (.seq (.region [o 61 (.bin .lss (.t 60) (.t 59))]) 
  (.seq (.cond (.t 61) .skip (.exit 2)) 
  (.seq (.block 3 
  (.seq (.region [o 62 (.idxSl none (.t 58) (.t 60)), o 63 (.load none (.t 62)), m 10 63]) (.region [m 64 5, m 65 10, o 66 (.idxSl none (.t 64) (.t 65)), u (.store none (.t 66) (.c (.b true)))]))) (.region [o 67 (.bin .add (.t 60) (.c (.i .i64 1))), m 60 67]))))))))))) (.region [o 68 (.bin .add (.t 37) (.c (.i .i64 1))), m 37 68]))))))) 
  (.seq (.region [o 11 (.mv (.c .nilsl))]) 
  (.seq 
  (.seq (.region [m 69 5, o 70 (.len 1 (.t 69)), o 71 (.mv (.c (.i .i64 0)))]) (.block 4 (.loop 
  (.seq (.region [o 72 (.bin .lss (.t 71) (.t 70))]) 
  (.seq (.cond (.t 72) .skip (.exit 4)) 
  (.seq (.block 5 
  (.seq (.region [m 73 71, o 74 (.idxSl none (.t 69) (.t 71)), o 75 (.load none (.t 74)), m 12 73, m 13 75]) 
  (.seq (.region [m 76 13]) (.cond (.t 76) (.region [m 77 11, m 78 12, o 79 (.buildSlice none 1 [(.i .i64 0)] [(0, (.t 78))]), o 80 (.append none 8 (.t 77) (.t 79)), m 11 80]) .skip)))) (.region [o 81 (.bin .add (.t 71) (.c (.i .i64 1))), m 71 81]))))))) 
  (.seq (.region [m 82 11, m 4 82]) .ret))))))))⟩
def c59 : AFunc := ⟨2, 106, [(4, none)], (some 
  (.seq (.region [o 4 (.mv (.c (.b false)))]) 
  (.seq (.region [m 10 0, m 11 1, o 12 (.bin .sub (.t 11) (.c (.i .i64 1))), o 13 (.idxSl (some 9) (.t 10) (.t 12)), o 14 (.load (some 9) (.t 13)), o 5 (.alloc (.ag [(.i .i64 0), (.i .i64 0), (.b false), (.i .u8 0), (.s []), .nilsl, .nilsl, (.s []), .nilsl])), u (.store (some 9) (.t 5) (.t 14))]) 
  (.seq 
  (.seq (.region [o 15 (.fieldAddr 0 none (.t 5)), o 16 (.load none (.t 15)), o 17 (.bin .lss (.t 16) (.c (.i .i64 0))), m 18 17, ⟨(some 19), .fieldAddr 0 none (.t 5), (some (18, false)), []⟩, ⟨(some 20), .load none (.t 19), (some (18, false)), []⟩, ⟨(some 21), .bin .gtr (.t 20) (.c (.i .i64 40)), (some (18, false)), []⟩, o 22 (.pick (.t 18) (.c (.b true)) (.t 21)), m 23 22, ⟨(some 24), .fieldAddr 1 none (.t 5), (some (23, false)), []⟩, ⟨(some 25), .load none (.t 24), (some (23, false)), []⟩, ⟨(some 26), .bin .lss (.t 25) (.c (.i .i64 0)), (some (23, false)), []⟩, o 27 (.pick (.t 23) (.c (.b true)) (.t 26)), m 28 27, ⟨(some 29), .fieldAddr 1 none (.t 5), (some (28, false)), []⟩, ⟨(some 30), .load none (.t 29), (some (28, false)), []⟩, ⟨(some 31), .fieldAddr 0 none (.t 5), (some (28, false)), []⟩, ⟨(some 32), .load none (.t 31), (some (28, false)), []⟩, ⟨(some 33), .bin .gtr (.t 30) (.t 32), (some (28, false)), []⟩, o 34 (.pick (.t 28) (.c (.b true)) (.t 33))]) (.cond (.t 34) 
  (.seq (.region [o 4 (.mv (.c (.b false)))]) .ret) .skip)) 
  (.seq (.region [o 35 (.build [(.i .i64 0), (.i .i64 0), (.b false), (.i .u8 0), (.s []), .nilsl, .nilsl, (.s []), .nilsl] [(2, 1, (.c (.b true)))]), o 6 (.alloc (.ag [(.i .i64 0), (.i .i64 0), (.b false), (.i .u8 0), (.s []), .nilsl, .nilsl, (.s []), .nilsl])), u (.store (some 9) (.t 6) (.t 35))]) 
  (.seq 
  (.seq (.region [m 36 1, o 37 (.bin .gtr (.t 36) (.c (.i .i64 1)))]) (.cond (.t 37) (.region [m 38 0, m 39 1, o 40 (.bin .sub (.t 39) (.c (.i .i64 2))), o 41 (.idxSl (some 9) (.t 38) (.t 40)), o 42 (.load (some 9) (.t 41)), u (.store (some 9) (.t 6) (.t 42))]) .skip)) 
  (.seq 
  (.seq (.region [o 43 (.fieldAddr 0 none (.t 5)), o 44 (.load none (.t 43)), o 45 (.fieldAddr 1 none (.t 5)), o 46 (.load none (.t 45)), o 47 (.bin .sub (.t 44) (.t 46)), o 48 (.fieldAddr 0 none (.t 6)), o 49 (.load none (.t 48)), o 50 (.bin .gtr (.t 47) (.t 49))]) (.cond (.t 50) 
  (.seq (.region [o 4 (.mv (.c (.b false)))]) .ret) .skip)) 
  (.seq 
  (.seq (.region [o 51 (.fieldAddr 2 none (.t 5)), o 52 (.load none (.t 51))]) (.cond (.t 52) 
  (.seq (.region [o 53 (.fieldAddr 2 none (.t 6)), o 54 (.load none (.t 53)), m 55 54, ⟨(some 56), .fieldAddr 0 none (.t 6), (some (55, true)), []⟩, ⟨(some 57), .load none (.t 56), (some (55, true)), []⟩, ⟨(some 58), .fieldAddr 0 none (.t 5), (some (55, true)), []⟩, ⟨(some 59), .load none (.t 58), (some (55, true)), []⟩, ⟨(some 60), .bin .eql (.t 57) (.t 59), (some (55, true)), []⟩, o 61 (.pick (.t 55) (.t 60) (.c (.b false))), m 7 61]) 
  (.seq (.region [o 62 (.fieldAddr 7 none (.t 5)), o 63 (.load none (.t 62)), o 64 (.bin .eql (.t 63) (.c (.s []))), m 65 64, ⟨(some 66), .fieldAddr 8 none (.t 5), (some (65, true)), []⟩, ⟨(some 67), .load none (.t 66), (some (65, true)), []⟩, ⟨(some 68), .len 1 (.t 67), (some (65, true)), []⟩, ⟨(some 69), .bin .eql (.t 68) (.c (.i .i64 0)), (some (65, true)), []⟩, o 70 (.pick (.t 65) (.t 69) (.c (.b false))), m 71 70, ⟨(some 72), .fieldAddr 1 none (.t 5), (some (71, true)), []⟩, ⟨(some 73), .load none (.t 72), (some (71, true)), []⟩, ⟨(some 74), .bin .gtr (.t 73) (.c (.i .i64 0)), (some (71, true)), []⟩, ⟨(some 75), .mv (.t 74), (some (71, true)), []⟩, ⟨(some 76), .mv (.t 7), (some (75, false)), []⟩, ⟨(some 77), .pick (.t 75) (.c (.b true)) (.t 76), (some (71, true)), []⟩, o 78 (.pick (.t 71) (.t 77) (.c (.b false))), m 4 78]) .ret)) .skip)) 
  (.seq 
  (.seq (.region [o 79 (.fieldAddr 8 none (.t 5)), o 80 (.load none (.t 79)), o 81 (.len 1 (.t 80)), o 82 (.mv (.c (.i .i64 0)))]) (.block 0 (.loop 
  (.seq (.region [o 83 (.bin .lss (.t 82) (.t 81))]) 
  (.seq (.cond (.t 83) .skip (.exit 0)) 
  (.seq (.block 1 
  (.seq (.region [o 84 (.idxSl (some 2) (.t 80) (.t 82)), o 85 (.load (some 2) (.t 84)), o 9 (.alloc (.ag [(.i .i64 0), (.i .i64 0)])), u (.store (some 2) (.t 9) (.t 85))]) 
  (.seq (.region [o 86 (.fieldAddr 0 none (.t 9)), o 87 (.load none (.t 86)), o 88 (.bin .lss (.t 87) (.c (.i .i64 1))), m 89 88, ⟨(some 90), .fieldAddr 0 none (.t 9), (some (89, false)), []⟩, ⟨(some 91), .load none (.t 90), (some (89, false)), []⟩, ⟨(some 92), .fieldAddr 1 none (.t 9), (some (89, false)), []⟩, ⟨(some 93), .load none (.t 92), (some (89, false)), []⟩, ⟨(some 94), .bin .gtr (.t 91) (.t 93), (some (89, false)), []⟩, o 95 (.pick (.t 89) (.c (.b true)) (.t 94)), m 96 95, ⟨(some 97), .fieldAddr 1 none (.t 9), (some (96, false)), []⟩, ⟨(some 98), .load none (.t 97), (some (96, false)), []⟩, ⟨(some 99), .mv (.t 1), (some (96, false)), []⟩, ⟨(some 100), .bin .geq (.t 98) (.t 99), (some (96, false)), []⟩, o 101 (.pick (.t 96) (.c (.b true)) (.t 100))]) (.cond (.t 101) 
  (.seq (.region [o 4 (.mv (.c (.b false)))]) .ret) .skip)))) (.region [o 102 (.bin .add (.t 82) (.c (.i .i64 1))), m 82 102]))))))) 
  (.seq (.region [o 103 (.fieldAddr 7 none (.t 5)), o 104 (.load none (.t 103)), o 105 (.bin .neq (.t 104) (.c (.s []))), m 4 105]) .ret))))))))))⟩
def c60 : AFunc := ⟨2, 12, [(4, none)], (some 
  (.seq (.region [o 2 (.box (.t 0)), o 3 (.box (.t 1)), o 4 (.mv (.c (.b false)))]) 
  (.seq (.region [o 5 (.load (some 5) (.t 2)), o 6 (.call (.fn 33) [(.t 5)]), m 7 6, ⟨(some 8), .load (some 5) (.t 2), (some (7, true)), []⟩, ⟨(some 9), .load (some 4) (.t 3), (some (7, true)), []⟩, ⟨(some 10), .call (.fn 98) [(.t 8), (.t 9)], (some (7, true)), []⟩, o 11 (.pick (.t 7) (.t 10) (.c (.b false))), m 4 11]) .ret)))⟩
def c61 : AFunc := ⟨2, 19, [(4, none)], (some 
  (.seq (.region [o 4 (.mv (.c (.i .i64 0)))]) 
  (.seq 
  (.seq (.region [m 6 0, o 7 (.len 1 (.t 6)), o 8 (.mv (.c (.i .i64 0)))]) (.block 0 (.loop 
  (.seq (.region [o 9 (.bin .lss (.t 8) (.t 7))]) 
  (.seq (.cond (.t 9) .skip (.exit 0)) 
  (.seq (.block 1 
  (.seq (.region [m 10 8, m 5 10]) 
  (.seq (.region [m 11 1, m 12 0, m 13 5, o 14 (.idxSl (some 6) (.t 12) (.t 13)), o 15 (.load (some 6) (.t 14)), o 16 (.call (.val (.t 11)) [(.t 15)])]) (.cond (.t 16) 
  (.seq (.region [m 17 5, m 4 17]) .ret) .skip)))) (.region [o 18 (.bin .add (.t 8) (.c (.i .i64 1))), m 8 18]))))))) 
  (.seq (.region [o 4 (.mv (.c (.i .i64 (-1))))]) .ret))))⟩
def c62 : AFunc := ⟨2, 9, [(3, none)], (some 
  (.seq (.region [o 2 (.box (.t 0)), o 3 (.mv (.c (.b false)))]) 
  (.seq (.region [o 4 (.fieldAddr 0 none (.t 2)), o 5 (.load none (.t 4)), o 6 (.fieldAddr 7 none (.t 1)), o 7 (.load none (.t 6)), o 8 (.bin .eql (.t 5) (.t 7)), m 3 8]) .ret)))⟩
def c63 : AFunc := ⟨3, 63, [(6, none), (7, none)], (some 
  (.seq (.region [o 6 (.mv (.c .nilsl)), o 7 (.mv (.c (.b false)))]) 
  (.seq (.region [m 16 0, o 17 (.nilCheck (.t 16)), o 18 (.fieldAddr 0 none (.t 17)), o 19 (.load none (.t 18)), m 20 1, o 21 (.bin .sub (.t 20) (.c (.i .i64 1))), o 22 (.idxSl (some 9) (.t 19) (.t 21)), o 23 (.fieldAddr 8 none (.t 22)), o 24 (.load none (.t 23)), m 8 24]) 
  (.seq 
  (.seq (.region [m 25 8, o 26 (.len 1 (.t 25)), m 27 2, o 28 (.len 1 (.t 27)), o 29 (.bin .neq (.t 26) (.t 28))]) (.cond (.t 29) 
  (.seq (.region [o 6 (.mv (.c .nilsl)), o 7 (.mv (.c (.b false)))]) .ret) .skip)) 
  (.seq (.region [m 30 0, m 31 1, o 32 (.call (.fn 99) [(.t 30), (.t 31)]), o 9 (.alloc (.ag [.nf, .nf])), u (.store (some 2) (.t 9) (.t 32))]) 
  (.seq (.region [o 10 (.mv (.c .nilsl))]) 
  (.seq 
  (.seq (.region [m 33 2, o 34 (.len 1 (.t 33)), o 35 (.mv (.c (.i .i64 0)))]) (.block 0 (.loop 
  (.seq (.region [o 36 (.bin .lss (.t 35) (.t 34))]) 
  (.seq (.cond (.t 36) .skip (.exit 0)) 
  (.seq (.block 1 
  (.seq (.region [m 37 35, o 38 (.idxSl (some 7) (.t 33) (.t 35)), o 39 (.load (some 7) (.t 38)), o 12 (.alloc (.ag [.nilsl, (.i .u8 0), (.s []), .nilsl, .nilsl, (.s []), (.b false)])), m 11 37, u (.store (some 7) (.t 12) (.t 39))]) 
  (.seq (.region [o 40 (.idxArr 2 none (.t 9) (.c (.i .i64 0))), o 41 (.load none (.t 40)), m 13 41]) 
  (.seq 
  (.seq (.region [o 42 (.load (some 7) (.t 12)), o 43 (.call (.fn 38) [(.t 42)])]) (.cond (.t 43) (.region [o 44 (.idxArr 2 none (.t 9) (.c (.i .i64 1))), o 45 (.load none (.t 44)), m 13 45]) .skip)) 
  (.seq (.region [m 47 13, m 48 8, m 49 11, o 50 (.idxSl (some 2) (.t 48) (.t 49)), o 51 (.load (some 2) (.t 50)), o 52 (.call (.val (.t 47)) [(.t 51)]), m 46 52, o 53 (.extract (.t 46) 0), o 54 (.extract (.t 46) 1), o 14 (.alloc (.ag [(.i .u8 0), (.s []), .nilsl, .nilsl, .nilsl, .nilsl])), u (.store (some 6) (.t 14) (.t 53)), m 15 54]) 
  (.seq 
  (.seq (.region [m 55 15, o 56 (.not (.t 55))]) (.cond (.t 56) 
  (.seq (.region [o 6 (.mv (.c .nilsl)), o 7 (.mv (.c (.b false)))]) .ret) .skip)) (.region [m 57 10, o 58 (.load (some 6) (.t 14)), o 59 (.buildSlice (some 6) 1 [(.i .u8 0), (.s []), .nilsl, .nilsl, .nilsl, .nilsl] [(0, (.t 58))]), o 60 (.append (some 6) 120 (.t 57) (.t 59)), m 10 60]))))))) (.region [o 61 (.bin .add (.t 35) (.c (.i .i64 1))), m 35 61]))))))) 
  (.seq (.region [m 62 10, m 6 62, o 7 (.mv (.c (.b true)))]) .ret))))))))⟩
def c64 : AFunc := ⟨2, 16, [(4, none)], (some 
  (.seq (.region [o 2 (.box (.t 0)), o 3 (.box (.t 1)), o 4 (.mv (.c (.b false)))]) 
  (.seq (.region [o 5 (.load (some 4) (.t 2)), o 6 (.call (.fn 100) [(.t 5)]), m 7 6, ⟨(some 8), .load (some 4) (.t 3), (some (7, true)), []⟩, ⟨(some 9), .call (.fn 100) [(.t 8)], (some (7, true)), []⟩, o 10 (.pick (.t 7) (.t 9) (.c (.b false))), m 11 10, ⟨(some 12), .load (some 4) (.t 2), (some (11, true)), []⟩, ⟨(some 13), .load (some 4) (.t 3), (some (11, true)), []⟩, ⟨(some 14), .call (.fn 101) [(.t 12), (.t 13), (.c .nilsl)], (some (11, true)), []⟩, o 15 (.pick (.t 11) (.t 14) (.c (.b false))), m 4 15]) .ret)))⟩
def c65 : AFunc := ⟨3, 58, [(6, (some (some 2))), (7, (some (some 3))), (8, (some none))], (some 
  (.seq (.region [o 3 (.box (.t 0)), o 4 (.box (.t 1)), o 6 (.alloc (.ag [.nilsl, .nilsl])), o 7 (.alloc (.ag [(.i .u8 0), (.i .i64 0), (.i .i64 0)])), o 8 (.alloc (.i .i64 0))]) 
  (.seq 
  (.seq (.region [o 14 (.load (some 6) (.t 3)), o 15 (.call (.fn 54) [(.t 14)]), o 16 (.not (.t 15))]) (.cond (.t 16) 
  (.seq (.region [o 17 (.build [.nilsl, .nilsl] []), o 18 (.build [(.i .u8 0), (.i .i64 0), (.i .i64 0)] []), u (.store (some 2) (.t 6) (.t 17)), u (.store (some 3) (.t 7) (.t 18)), u (.store none (.t 8) (.c (.i .i64 2)))]) .ret) .skip)) 
  (.seq 
  (.seq (.region [o 19 (.load (some 4) (.t 4)), m 20 2, o 21 (.call (.fn 102) [(.t 19), (.t 20)])]) (.block 0 (.rangeFunc (.t 21) [22] (.region [o 9 (.alloc (.ag [(.i .u8 0), (.s []), .nilsl, .nilsl])), u (.store (some 4) (.t 9) (.t 22))]) (.block 1 
  (.seq (.region [o 23 (.load (some 4) (.t 9)), o 24 (.call (.fn 100) [(.t 23)]), o 25 (.not (.t 24))]) (.cond (.t 25) 
  (.seq (.region [o 26 (.build [.nilsl, .nilsl] []), o 27 (.build [(.i .u8 0), (.i .i64 0), (.i .i64 0)] []), u (.store (some 2) (.t 6) (.t 26)), u (.store (some 3) (.t 7) (.t 27)), u (.store none (.t 8) (.c (.i .i64 2)))]) .ret) .skip)))))) 
  (.seq (.region [o 28 (.load (some 6) (.t 3)), o 29 (.load (some 4) (.t 4)), m 30 2, o 31 (.build [(.s []), .nilsl, (.i .u8 0), (.s []), .nilsl, .nilsl, (.i .u8 0), (.s []), .nilsl, .nilsl, .nilsl, .nilsl, .nilsl] [(0, 6, (.t 28)), (6, 4, (.t 29)), (10, 1, (.t 30))]), o 32 (.box (.t 31)), m 10 32]) 
  (.seq 
  (.seq (.region [m 33 10, o 34 (.mkFunc (.func 103) [(.t 33)] []), m 35 10, o 36 (.mkFunc (.func 104) [(.t 35)] []), m 37 10, o 38 (.mkFunc (.func 105) [(.t 37)] []), o 39 (.buildSlice none 3 [.nf] [(0, (.t 34)), (1, (.t 36)), (2, (.t 38))]), o 40 (.len 1 (.t 39)), o 41 (.mv (.c (.i .i64 0)))]) (.block 2 (.loop 
  (.seq (.region [o 42 (.bin .lss (.t 41) (.t 40))]) 
  (.seq (.cond (.t 42) .skip (.exit 2)) 
  (.seq (.block 3 
  (.seq (.region [o 43 (.idxSl none (.t 39) (.t 41)), o 44 (.load none (.t 43)), m 12 44]) 
  (.seq (.region [m 45 12, o 46 (.call (.val (.t 45)) []), o 13 (.alloc (.ag [(.i .u8 0), (.i .i64 0), (.i .i64 0)])), u (.store (some 3) (.t 13) (.t 46))]) 
  (.seq (.region [o 47 (.fieldAddr 0 none (.t 13)), o 48 (.load none (.t 47)), o 49 (.bin .neq (.t 48) (.c (.i .u8 0)))]) (.cond (.t 49) 
  (.seq (.draw [o 50 (.build [.nilsl, .nilsl] []), ⟨(some 51), .load (some 3) (.t 13), none, [3]⟩, u (.store (some 2) (.t 6) (.t 50)), u (.store (some 3) (.t 7) (.t 51)), u (.store none (.t 8) (.c (.i .i64 80)))]) .ret) .skip))))) (.region [o 52 (.bin .add (.t 41) (.c (.i .i64 1))), m 41 52]))))))) 
  (.seq (.region [m 53 10, o 54 (.nilCheck (.t 53)), o 55 (.fieldAddr 11 (some 2) (.t 54)), o 56 (.load (some 2) (.t 55)), o 57 (.build [(.i .u8 0), (.i .i64 0), (.i .i64 0)] []), u (.store (some 2) (.t 6) (.t 56)), u (.store (some 3) (.t 7) (.t 57)), u (.store none (.t 8) (.c (.i .i64 0)))]) .ret)))))))⟩
def c66 : AFunc := ⟨2, 28, [(4, none)], (some 
  (.seq (.region [o 4 (.mv (.c .nilsl))]) 
  (.seq 
  (.seq (.region [m 8 0, o 9 (.len 1 (.t 8)), o 10 (.bin .eql (.t 9) (.c (.i .i64 0)))]) (.cond (.t 10) 
  (.seq (.region [o 4 (.mv (.c .nilsl))]) .ret) .skip)) 
  (.seq (.region [m 11 0, o 12 (.len 1 (.t 11)), o 13 (.mkSlice (some 3) 48 [(.b false), (.s []), .nilsl] (.c (.i .i64 0)) (.t 12)), m 5 13]) 
  (.seq 
  (.seq (.region [m 14 0, o 15 (.len 1 (.t 14)), o 16 (.mv (.c (.i .i64 0)))]) (.block 0 (.loop 
  (.seq (.region [o 17 (.bin .lss (.t 16) (.t 15))]) 
  (.seq (.cond (.t 17) .skip (.exit 0)) 
  (.seq (.block 1 
  (.seq (.region [o 18 (.idxSl (some 3) (.t 14) (.t 16)), o 19 (.load (some 3) (.t 18)), o 7 (.alloc (.ag [(.b false), (.s []), .nilsl])), u (.store (some 3) (.t 7) (.t 19))]) (.region [m 20 5, m 21 1, o 22 (.load (some 3) (.t 7)), o 23 (.call (.val (.t 21)) [(.t 22)]), o 24 (.buildSlice (some 3) 1 [(.b false), (.s []), .nilsl] [(0, (.t 23))]), o 25 (.append (some 3) 48 (.t 20) (.t 24)), m 5 25]))) (.region [o 26 (.bin .add (.t 16) (.c (.i .i64 1))), m 16 26]))))))) 
  (.seq (.region [m 27 5, m 4 27]) .ret))))))⟩
def c68 : AFunc := ⟨2, 28, [(4, none)], (some 
  (.seq (.region [o 4 (.mv (.c .nilsl))]) 
  (.seq 
  (.seq (.region [m 8 0, o 9 (.len 1 (.t 8)), o 10 (.bin .eql (.t 9) (.c (.i .i64 0)))]) (.cond (.t 10) 
  (.seq (.region [o 4 (.mv (.c .nilsl))]) .ret) .skip)) 
  (.seq (.region [m 11 0, o 12 (.len 1 (.t 11)), o 13 (.mkSlice (some 4) 72 [(.i .u8 0), (.s []), .nilsl, .nilsl] (.c (.i .i64 0)) (.t 12)), m 5 13]) 
  (.seq 
  (.seq (.region [m 14 0, o 15 (.len 1 (.t 14)), o 16 (.mv (.c (.i .i64 0)))]) (.block 0 (.loop 
  (.seq (.region [o 17 (.bin .lss (.t 16) (.t 15))]) 
  (.seq (.cond (.t 17) .skip (.exit 0)) 
  (.seq (.block 1 
  (.seq (.region [o 18 (.idxSl (some 4) (.t 14) (.t 16)), o 19 (.load (some 4) (.t 18)), o 7 (.alloc (.ag [(.i .u8 0), (.s []), .nilsl, .nilsl])), u (.store (some 4) (.t 7) (.t 19))]) (.region [m 20 5, m 21 1, o 22 (.load (some 4) (.t 7)), o 23 (.call (.val (.t 21)) [(.t 22)]), o 24 (.buildSlice (some 4) 1 [(.i .u8 0), (.s []), .nilsl, .nilsl] [(0, (.t 23))]), o 25 (.append (some 4) 72 (.t 20) (.t 24)), m 5 25]))) (.region [o 26 (.bin .add (.t 16) (.c (.i .i64 1))), m 16 26]))))))) 
  (.seq (.region [m 27 5, m 4 27]) .ret))))))⟩
def c69 : AFunc := ⟨2, 9, [], (some 
  (.seq (.region [o 2 (.box (.t 0))]) 
  (.seq (.region [o 3 (.alloc .nilsl)]) 
  (.seq (.region [o 4 (.alloc .nf)]) 
  (.seq (.region [o 5 (.mkFunc (.func 70) [] [(.t 2), (.t 3), (.t 4)]), u (.store none (.t 4) (.t 5))]) (.region [o 6 (.load none (.t 4)), o 7 (.load none (.t 1)), o 8 (.call (.val (.t 6)) [(.t 7)])]))))))⟩
def c70 : AFunc := ⟨4, 39, [(5, none)], (some 
  (.seq (.region [o 5 (.mv (.c (.b false)))]) 
  (.seq 
  (.seq (.region [o 7 (.load none (.t 1)), o 8 (.load none (.t 2)), m 9 0, o 10 (.call (.val (.t 7)) [(.t 8), (.t 9)]), o 11 (.not (.t 10))]) (.cond (.t 11) 
  (.seq (.region [o 5 (.mv (.c (.b false)))]) .ret) .skip)) 
  (.seq 
  (.seq (.region [m 12 0, o 13 (.nilCheck (.t 12)), o 14 (.fieldAddr 6 none (.t 13)), o 15 (.load none (.t 14)), o 16 (.len 1 (.t 15)), o 17 (.mv (.c (.i .i64 0)))]) (.block 0 (.loop 
  (.seq (.region [o 18 (.bin .lss (.t 17) (.t 16))]) 
  (.seq (.cond (.t 18) .skip (.exit 0)) 
  (.seq (.block 1 
  (.seq (.region [m 19 17, m 6 19]) 
  (.seq (.region [o 20 (.load none (.t 2)), m 21 6, o 22 (.buildSlice none 1 [(.i .i64 0)] [(0, (.t 21))]), o 23 (.append none 8 (.t 20) (.t 22)), u (.store none (.t 2) (.t 23))]) 
  (.seq 
  (.seq (.draw [o 24 (.load none (.t 3)), m 25 0, o 26 (.nilCheck (.t 25)), o 27 (.fieldAddr 6 none (.t 26)), o 28 (.load none (.t 27)), m 29 6, o 30 (.idxSl (some 8) (.t 28) (.t 29)), o 31 (.call (.val (.t 24)) [(.t 30)]), o 32 (.not (.t 31))]) (.cond (.t 32) 
  (.seq (.region [o 5 (.mv (.c (.b false)))]) .ret) .skip)) (.region [o 33 (.load none (.t 2)), o 34 (.load none (.t 2)), o 35 (.len 1 (.t 34)), o 36 (.bin .sub (.t 35) (.c (.i .i64 1))), o 37 (.sliceSl none (.t 33) none (some (.t 36)) none), u (.store none (.t 2) (.t 37))]))))) (.region [o 38 (.bin .add (.t 17) (.c (.i .i64 1))), m 17 38]))))))) 
  (.seq (.region [o 5 (.mv (.c (.b true)))]) .ret)))))⟩
def c71 : AFunc := ⟨2, 38, [(4, none), (5, none)], (some 
  (.seq (.region [o 2 (.box (.t 0)), o 3 (.box (.t 1)), o 4 (.mv (.c .nilsl)), o 5 (.mv (.c (.i .i64 0)))]) 
  (.seq 
  (.seq (.region [o 9 (.load (some 5) (.t 2)), o 10 (.call (.fn 33) [(.t 9)]), o 11 (.not (.t 10))]) (.cond (.t 11) 
  (.seq (.region [o 4 (.mv (.c .nilsl)), o 5 (.mv (.c (.i .i64 2)))]) .ret) .skip)) 
  (.seq 
  (.seq (.region [o 12 (.load (some 8) (.t 3)), o 13 (.call (.fn 23) [(.t 12)]), o 14 (.not (.t 13))]) (.cond (.t 14) 
  (.seq (.region [o 15 (.build [.nilsl, (.i .u8 0), (.i .u8 0), (.i .i64 0), (.i .i64 0)] [(1, 1, (.c (.i .u8 1)))]), o 16 (.buildSlice (some 5) 1 [.nilsl, (.i .u8 0), (.i .u8 0), (.i .i64 0), (.i .i64 0)] [(0, (.t 15))]), m 4 16, o 5 (.mv (.c (.i .i64 0)))]) .ret) .skip)) 
  (.seq (.draw [⟨(some 17), .load (some 5) (.t 2), none, [4, 6]⟩, o 18 (.mkMap), ⟨(some 19), .load (some 8) (.t 3), none, [4]⟩, o 6 (.alloc (.ag [(.s []), (.i .u32 0), (.i .u8 0), (.i .u8 0), .nilsl, (.m none), (.m none), .nilsl])), o 20 (.call (.fn 106) [(.t 19)]), o 21 (.build [(.s []), (.i .u32 0), (.i .u8 0), (.i .u8 0), .nilsl, (.m none), (.m none), .nilsl] [(0, 5, (.t 17)), (5, 1, (.t 18)), (6, 1, (.t 20))]), u (.store (some 8) (.t 6) (.t 21))]) 
  (.seq 
  (.seq (.region [o 22 (.fieldAddr 4 none (.t 2)), o 23 (.load none (.t 22)), o 24 (.len 1 (.t 23)), o 25 (.mv (.c (.i .i64 0)))]) (.block 0 (.loop 
  (.seq (.region [o 26 (.bin .lss (.t 25) (.t 24))]) 
  (.seq (.cond (.t 26) .skip (.exit 0)) 
  (.seq (.block 1 
  (.seq (.region [o 27 (.idxSl (some 6) (.t 23) (.t 25)), o 28 (.load (some 6) (.t 27)), o 8 (.alloc (.ag [(.s []), .nilsl, (.i .u8 0), (.s []), .nilsl, .nilsl])), u (.store (some 6) (.t 8) (.t 28))]) (.region [o 29 (.fieldAddr 5 none (.t 6)), o 30 (.load none (.t 29)), o 31 (.fieldAddr 0 none (.t 8)), o 32 (.load none (.t 31)), o 33 (.load (some 6) (.t 8)), u (.mapUpd (.inl 1) (.t 30) (.t 32) (.t 33))]))) (.region [o 34 (.bin .add (.t 25) (.c (.i .i64 1))), m 25 34]))))))) 
  (.seq (.region [o 35 (.call (.fn 107) [(.t 6), (.t 3), (.c .nilsl)])]) 
  (.seq (.region [o 36 (.fieldAddr 7 none (.t 6)), o 37 (.load none (.t 36)), m 4 37, o 5 (.mv (.c (.i .i64 0)))]) .ret))))))))⟩
def c72 : AFunc := ⟨1, 32, [(2, none), (3, none)], (some 
  (.seq (.region [o 1 (.box (.t 0)), o 2 (.mv (.c .nilsl)), o 3 (.mv (.c (.i .i64 0)))]) 
  (.seq 
  (.seq (.region [o 8 (.load (some 8) (.t 1)), o 9 (.call (.fn 23) [(.t 8)]), o 10 (.not (.t 9))]) (.cond (.t 10) 
  (.seq (.region [o 2 (.mv (.c .nilsl)), o 3 (.mv (.c (.i .i64 5)))]) .ret) .skip)) 
  (.seq (.region [o 11 (.load (some 8) (.t 1)), o 12 (.call (.fn 106) [(.t 11)]), m 4 12]) 
  (.seq (.region [o 5 (.mv (.c .nilsl))]) 
  (.seq 
  (.seq (.region [o 13 (.call (.fn 110) [(.t 1)]), o 14 (.call (.fn 109) [(.t 13)]), o 15 (.call (.fn 108) [(.t 14)]), o 16 (.len 1 (.t 15)), o 17 (.mv (.c (.i .i64 0)))]) (.block 0 (.loop 
  (.seq (.region [o 18 (.bin .lss (.t 17) (.t 16))]) 
  (.seq (.cond (.t 18) .skip (.exit 0)) 
  (.seq (.block 1 
  (.seq (.region [o 19 (.idxSl none (.t 15) (.t 17)), o 20 (.load none (.t 19)), m 7 20]) (.region [m 21 5, m 22 7, m 23 4, m 24 7, o 25 (.lookup (.inl 0) (.t 23) (.t 24) (.ag [(.i .u8 0), (.s []), .nilsl, .nilsl]) false), o 26 (.call (.fn 37) [(.t 25)]), o 27 (.build [(.i .i64 0), (.i .u8 0), (.s []), .nilsl, .nilsl] [(0, 1, (.t 22)), (1, 4, (.t 26))]), o 28 (.buildSlice (some 5) 1 [(.i .i64 0), (.i .u8 0), (.s []), .nilsl, .nilsl] [(0, (.t 27))]), o 29 (.append (some 5) 80 (.t 21) (.t 28)), m 5 29]))) (.region [o 30 (.bin .add (.t 17) (.c (.i .i64 1))), m 17 30]))))))) 
  (.seq (.region [m 31 5, m 2 31, o 3 (.mv (.c (.i .i64 0)))]) .ret)))))))⟩
def c73 : AFunc := ⟨1, 23, [(2, none)], (some 
  (.seq (.region [o 2 (.mv (.c (.s [])))]) (.scope 
  (.seq (.region [o 3 (.mv (.c (.i .i64 0)))]) 
  (.seq .skip (.block 0 (.loop (.block 1 
  (.seq (.region [m 7 3, o 8 (.bin .add (.t 7) (.c (.i .i64 1))), m 3 8]) 
  (.seq (.region [m 9 3, o 10 (.call (.fn 111) [(.t 9)]), o 11 (.bin .add (.c (.s [120])) (.t 10)), m 4 11]) 
  (.seq 
  (.seq (.region [m 12 0, o 13 (.len 1 (.t 12)), o 14 (.mv (.c (.i .i64 0)))]) (.block 2 (.loop 
  (.seq (.region [o 15 (.bin .lss (.t 14) (.t 13))]) 
  (.seq (.cond (.t 15) .skip (.exit 2)) 
  (.seq (.block 3 
  (.seq (.region [o 16 (.idxSl none (.t 12) (.t 14)), o 17 (.load none (.t 16)), m 6 17]) 
  (.seq (.region [m 18 6, m 19 4, o 20 (.lookup (.inl 1) (.t 18) (.t 19) (.b false) false)]) (.cond (.t 20) (.exit 1) .skip)))) (.region [o 21 (.bin .add (.t 14) (.c (.i .i64 1))), m 14 21]))))))) 
  (.seq (.region [m 22 4, m 2 22]) .ret))))))))))))⟩
def c74 : AFunc := ⟨1, 11, [(2, none)], (some 
  (.seq (.region [o 2 (.mv (.c (.m none)))]) 
  (.seq (.region [o 5 (.mkMap), o 3 (.alloc (.m none)), u (.store none (.t 3) (.t 5))]) 
  (.seq 
  (.seq (.region [m 6 0]) (.block 0 (.rangeFunc (.t 6) [7] (.region [m 4 7]) (.block 1 (.region [o 8 (.load none (.t 3)), m 9 4, u (.mapUpd (.inl 1) (.t 8) (.t 9) (.c (.b true)))]))))) 
  (.seq (.region [o 10 (.load none (.t 3)), m 2 10]) .ret)))))⟩
def c75 : AFunc := ⟨1, 4, [(2, none)], (some (.seq (.region [o 1 (.box (.t 0)), o 2 (.mv (.c .nf))]) (.seq (.region [o 3 (.mkFunc (.func 112) [] [(.t 1)]), m 2 3]) .ret)))⟩
def c76 : AFunc := ⟨1, 8, [(2, none)], (some 
  (.seq (.region [o 1 (.box (.t 0)), o 2 (.mv (.c .nilsl))]) 
  (.seq (.region [o 3 (.load (some 4) (.t 1)), o 4 (.call (.fn 115) [(.t 3)]), o 5 (.call (.fn 74) [(.t 4)]), o 6 (.call (.fn 114) [(.t 5)]), o 7 (.call (.fn 113) [(.t 6)]), m 2 7]) .ret)))⟩
def c77 : AFunc := ⟨5, 156, [(10, (some (some 2)))], (some 
  (.seq (.region [o 6 (.box (.t 1)), o 10 (.alloc (.ag [(.i .i64 0), (.i .i64 0)]))]) 
  (.seq (.region [m 18 0, o 19 (.nilCheck (.t 18)), o 20 (.fieldAddr 5 none (.t 19)), o 21 (.load none (.t 20)), o 22 (.len 1 (.t 21)), o 23 (.bin .add (.t 22) (.c (.i .i64 1))), m 11 23]) 
  (.seq (.region [m 24 0, o 25 (.nilCheck (.t 24)), o 26 (.fieldAddr 7 none (.t 25)), o 27 (.load none (.t 26)), o 28 (.bin .add (.t 27) (.c (.i .i64 1))), o 29 (.nilCheck (.t 24)), o 30 (.fieldAddr 7 none (.t 29)), u (.store none (.t 30) (.t 28))]) 
  (.seq 
  (.seq (.region [o 31 (.fieldAddr 7 none (.t 6)), o 32 (.load none (.t 31)), m 33 2, o 34 (.idxSl none (.t 32) (.t 33)), o 35 (.load none (.t 34)), o 36 (.len 1 (.t 35)), o 37 (.mv (.c (.i .i64 0)))]) (.block 0 (.loop 
  (.seq (.region [o 38 (.bin .lss (.t 37) (.t 36))]) 
  (.seq (.cond (.t 38) .skip (.exit 0)) 
  (.seq (.block 1 
  (.seq (.region [m 39 37, o 40 (.idxSl none (.t 35) (.t 37)), o 41 (.load none (.t 40)), m 12 39, m 13 41]) 
  (.seq (.region [m 42 0, m 43 3, m 44 0, o 45 (.load (some 8) (.t 6)), m 46 2, m 47 12, o 48 (.call (.fn 116) [(.t 44), (.t 45), (.t 46), (.t 47)]), o 49 (.build [(.i .i64 0), (.i .i64 0), (.b false), (.i .u8 0), (.s []), .nilsl, .nilsl, (.s []), .nilsl] [(0, 1, (.t 43)), (2, 1, (.c (.b true))), (3, 4, (.t 48))]), o 50 (.call (.fn 44) [(.t 42), (.t 49)]), m 14 50]) (.draw [m 51 0, o 52 (.nilCheck (.t 51)), o 53 (.fieldAddr 6 none (.t 52)), ⟨(some 54), .load none (.t 53), none, [13, 14]⟩, m 55 13, m 56 0, o 57 (.nilCheck (.t 56)), o 58 (.fieldAddr 6 none (.t 57)), ⟨(some 59), .load none (.t 58), none, [13]⟩, m 60 13, ⟨(some 61), .lookup (.inl 0) (.t 59) (.t 60) .nilsl false, none, [13]⟩, m 62 14, o 63 (.buildSlice none 1 [(.i .i64 0)] [(0, (.t 62))]), o 64 (.append none 8 (.t 61) (.t 63)), u (.mapUpd (.inl 0) (.t 54) (.t 55) (.t 64))])))) (.region [o 65 (.bin .add (.t 37) (.c (.i .i64 1))), m 37 65]))))))) 
  (.seq (.region [m 66 4, o 67 (.fieldAddr 6 none (.t 6)), o 68 (.load none (.t 67)), m 69 2, o 70 (.idxSl (some 8) (.t 68) (.t 69)), o 71 (.load (some 8) (.t 70)), m 72 3, o 73 (.call (.val (.t 66)) [(.t 71), (.t 72)]), m 15 73]) 
  (.seq 
  (.seq (.region [m 74 15, m 75 0, o 76 (.nilCheck (.t 75)), o 77 (.fieldAddr 5 none (.t 76)), o 78 (.load none (.t 77)), o 79 (.len 1 (.t 78)), o 80 (.bin .neq (.t 74) (.t 79)), m 81 80, ⟨(some 82), .mv (.t 0), (some (81, false)), []⟩, ⟨(some 83), .nilCheck (.t 82), (some (81, false)), []⟩, ⟨(some 84), .fieldAddr 5 none (.t 83), (some (81, false)), []⟩, ⟨(some 85), .load none (.t 84), (some (81, false)), []⟩, ⟨(some 86), .mv (.t 15), (some (81, false)), []⟩, ⟨(some 87), .bin .sub (.t 86) (.c (.i .i64 1)), (some (81, false)), []⟩, ⟨(some 88), .idxSl (some 9) (.t 85) (.t 87), (some (81, false)), []⟩, ⟨(some 89), .fieldAddr 0 none (.t 88), (some (81, false)), []⟩, ⟨(some 90), .load none (.t 89), (some (81, false)), []⟩, ⟨(some 91), .mv (.t 3), (some (81, false)), []⟩, ⟨(some 92), .bin .neq (.t 90) (.t 91), (some (81, false)), []⟩, o 93 (.pick (.t 81) (.c (.b true)) (.t 92)), m 94 93, ⟨(some 95), .mv (.t 0), (some (94, false)), []⟩, ⟨(some 96), .nilCheck (.t 95), (some (94, false)), []⟩, ⟨(some 97), .fieldAddr 7 none (.t 96), (some (94, false)), []⟩, ⟨(some 98), .load none (.t 97), (some (94, false)), []⟩, ⟨(some 99), .bin .gtr (.t 98) (.c (.i .i64 0)), (some (94, false)), []⟩, o 100 (.pick (.t 94) (.c (.b true)) (.t 99))]) (.cond (.t 100) (.region [m 101 0, m 102 3, m 103 0, o 104 (.nilCheck (.t 103)), o 105 (.fieldAddr 5 none (.t 104)), o 106 (.load none (.t 105)), m 107 15, o 108 (.bin .sub (.t 107) (.c (.i .i64 1))), o 109 (.idxSl (some 9) (.t 106) (.t 108)), o 110 (.fieldAddr 3 (some 4) (.t 109)), o 111 (.load (some 4) (.t 110)), m 112 15, m 113 15, o 114 (.build [(.i .i64 0), (.i .i64 0)] [(0, 1, (.t 112)), (1, 1, (.t 113))]), o 115 (.buildSlice (some 2) 1 [(.i .i64 0), (.i .i64 0)] [(0, (.t 114))]), o 116 (.build [(.i .i64 0), (.i .i64 0), (.b false), (.i .u8 0), (.s []), .nilsl, .nilsl, (.s []), .nilsl] [(0, 1, (.t 102)), (3, 4, (.t 111)), (7, 1, (.c (.s [97, 103, 97, 105, 110]))), (8, 1, (.t 115))]), o 117 (.call (.fn 44) [(.t 101), (.t 116)])]) .skip)) 
  (.seq 
  (.seq (.region [o 118 (.fieldAddr 7 none (.t 6)), o 119 (.load none (.t 118)), m 120 2, o 121 (.idxSl none (.t 119) (.t 120)), o 122 (.load none (.t 121)), o 123 (.len 1 (.t 122)), o 124 (.mv (.c (.i .i64 0)))]) (.block 2 (.loop 
  (.seq (.region [o 125 (.bin .lss (.t 124) (.t 123))]) 
  (.seq (.cond (.t 125) .skip (.exit 2)) 
  (.seq (.block 3 
  (.seq (.region [o 126 (.idxSl none (.t 122) (.t 124)), o 127 (.load none (.t 126)), m 17 127]) (.draw [m 128 0, o 129 (.nilCheck (.t 128)), o 130 (.fieldAddr 6 none (.t 129)), o 131 (.load none (.t 130)), m 132 17, m 133 0, o 134 (.nilCheck (.t 133)), o 135 (.fieldAddr 6 none (.t 134)), o 136 (.load none (.t 135)), m 137 17, o 138 (.lookup (.inl 0) (.t 136) (.t 137) .nilsl false), m 139 0, o 140 (.nilCheck (.t 139)), o 141 (.fieldAddr 6 none (.t 140)), o 142 (.load none (.t 141)), m 143 17, o 144 (.lookup (.inl 0) (.t 142) (.t 143) .nilsl false), o 145 (.len 1 (.t 144)), o 146 (.bin .sub (.t 145) (.c (.i .i64 1))), o 147 (.sliceSl none (.t 138) none (some (.t 146)) none), u (.mapUpd (.inl 0) (.t 131) (.t 132) (.t 147))]))) (.region [o 148 (.bin .add (.t 124) (.c (.i .i64 1))), m 124 148]))))))) 
  (.seq (.region [m 149 11, m 150 0, o 151 (.nilCheck (.t 150)), o 152 (.fieldAddr 5 none (.t 151)), o 153 (.load none (.t 152)), o 154 (.len 1 (.t 153)), o 155 (.build [(.i .i64 0), (.i .i64 0)] [(0, 1, (.t 149)), (1, 1, (.t 154))]), u (.store (some 2) (.t 10) (.t 155))]) .ret)))))))))⟩
def c78 : AFunc := ⟨2, 27, [(4, none)], (some 
  (.seq (.region [o 4 (.mv (.c (.b false)))]) 
  (.seq 
  (.seq (.region [m 6 0, o 7 (.len 1 (.t 6)), m 8 1, o 9 (.len 1 (.t 8)), o 10 (.bin .neq (.t 7) (.t 9))]) (.cond (.t 10) 
  (.seq (.region [o 4 (.mv (.c (.b false)))]) .ret) .skip)) 
  (.seq 
  (.seq (.region [o 5 (.mv (.c (.i .i64 0)))]) (.block 0 (.loop 
  (.seq 
  (.seq (.region [m 11 5, m 12 0, o 13 (.len 1 (.t 12)), o 14 (.bin .lss (.t 11) (.t 13))]) (.cond (.t 14) .skip (.exit 0))) 
  (.seq (.block 1 
  (.seq (.draw [m 17 0, m 18 5, o 19 (.idxSl (some 3) (.t 17) (.t 18)), o 20 (.load (some 3) (.t 19)), m 21 1, m 22 5, o 23 (.idxSl (some 3) (.t 21) (.t 22)), o 24 (.load (some 3) (.t 23)), o 25 (.call (.fn 117) [(.t 20), (.t 24)]), o 26 (.not (.t 25))]) (.cond (.t 26) 
  (.seq (.region [o 4 (.mv (.c (.b false)))]) .ret) .skip))) (.region [m 15 5, o 16 (.bin .add (.t 15) (.c (.i .i64 1))), m 5 16])))))) 
  (.seq (.region [o 4 (.mv (.c (.b true)))]) .ret)))))⟩
def c79 : AFunc := ⟨2, 27, [(4, none)], (some 
  (.seq (.region [o 4 (.mv (.c (.b false)))]) 
  (.seq 
  (.seq (.region [m 6 0, o 7 (.len 1 (.t 6)), m 8 1, o 9 (.len 1 (.t 8)), o 10 (.bin .neq (.t 7) (.t 9))]) (.cond (.t 10) 
  (.seq (.region [o 4 (.mv (.c (.b false)))]) .ret) .skip)) 
  (.seq 
  (.seq (.region [o 5 (.mv (.c (.i .i64 0)))]) (.block 0 (.loop 
  (.seq 
  (.seq (.region [m 11 5, m 12 0, o 13 (.len 1 (.t 12)), o 14 (.bin .lss (.t 11) (.t 13))]) (.cond (.t 14) .skip (.exit 0))) 
  (.seq (.block 1 
  (.seq (.draw [m 17 0, m 18 5, o 19 (.idxSl (some 4) (.t 17) (.t 18)), o 20 (.load (some 4) (.t 19)), m 21 1, m 22 5, o 23 (.idxSl (some 4) (.t 21) (.t 22)), o 24 (.load (some 4) (.t 23)), o 25 (.call (.fn 46) [(.t 20), (.t 24)]), o 26 (.not (.t 25))]) (.cond (.t 26) 
  (.seq (.region [o 4 (.mv (.c (.b false)))]) .ret) .skip))) (.region [m 15 5, o 16 (.bin .add (.t 15) (.c (.i .i64 1))), m 5 16])))))) 
  (.seq (.region [o 4 (.mv (.c (.b true)))]) .ret)))))⟩
def c80 : AFunc := ⟨3, 37, [(6, (some (some 4))), (7, (some none)), (8, (some none))], (some 
  (.seq (.region [o 6 (.alloc (.ag [(.i .u8 0), (.s []), .nilsl, .nilsl])), o 7 (.alloc (.i .i64 0)), o 8 (.alloc (.i .i64 0))]) 
  (.seq (.region [m 12 0, o 13 (.call (.fn 118) [(.t 12)]), m 11 13, o 14 (.extract (.t 11) 0), o 15 (.extract (.t 11) 1), o 16 (.extract (.t 11) 2), m 9 14, u (.store none (.t 7) (.t 15)), u (.store none (.t 8) (.t 16))]) 
  (.seq 
  (.seq (.region [o 17 (.load none (.t 8)), o 18 (.bin .neq (.t 17) (.c (.i .i64 0)))]) (.cond (.t 18) 
  (.seq (.draw [o 19 (.load (some 4) (.t 6)), ⟨(some 20), .load none (.t 7), none, [4]⟩, ⟨(some 21), .load none (.t 8), none, [4, 5]⟩, u (.store (some 4) (.t 6) (.t 19)), u (.store none (.t 7) (.t 20)), u (.store none (.t 8) (.t 21))]) .ret) .skip)) 
  (.seq (.region [o 22 (.mkFunc (.func 119) [] [(.t 6), (.t 7), (.t 8)]), u (.dfr (.val (.t 22)) [])]) 
  (.seq (.region [m 23 9, m 24 1, o 25 (.build [.nilsl, (.i .i64 0), (.i .i64 0), (.b false)] [(0, 1, (.t 23)), (3, 1, (.t 24))]), o 26 (.box (.t 25)), m 10 26]) 
  (.seq (.region [m 27 2, m 28 10, o 29 (.call (.val (.t 27)) [(.t 28)]), u (.store (some 4) (.t 6) (.t 29))]) 
  (.seq 
  (.seq (.region [m 30 10, o 31 (.call (.fn 120) [(.t 30)]), o 32 (.field 0 none (.t 31)), o 33 (.bin .neq (.t 32) (.c (.i .u8 5)))]) (.cond (.t 33) (.region [m 34 10, o 35 (.call (.fn 121) [(.t 34), (.c (.i .i64 50))])]) .skip)) 
  (.seq (.region [o 36 (.load (some 4) (.t 6)), u (.store (some 4) (.t 6) (.t 36)), u (.store none (.t 7) (.c (.i .i64 0))), u (.store none (.t 8) (.c (.i .i64 0)))]) .ret)))))))))⟩
def c81 : AFunc := ⟨1, 5, [(2, (some (some 4)))], (some 
  (.seq (.region [o 2 (.alloc (.ag [(.i .u8 0), (.s []), .nilsl, .nilsl]))]) 
  (.seq (.region [m 3 0, o 4 (.call (.fn 122) [(.t 3), (.c (.i .i64 0))]), u (.store (some 4) (.t 2) (.t 4))]) .ret)))⟩
def c82 : AFunc := ⟨1, 7, [(2, none)], (some 
  (.seq (.region [o 1 (.box (.t 0)), o 2 (.mv (.c (.b false)))]) 
  (.seq (.region [o 4 (.build [(.b false), (.i .i64 0), (.i .i64 0)] [(0, 1, (.c (.b true))), (1, 1, (.c (.i .i64 400))), (2, 1, (.c (.i .i64 40)))]), o 3 (.alloc (.ag [(.b false), (.i .i64 0), (.i .i64 0)])), u (.store (some 3) (.t 3) (.t 4))]) 
  (.seq (.region [o 5 (.load (some 4) (.t 1)), o 6 (.call (.fn 123) [(.t 3), (.t 5), (.c (.i .i64 1))]), m 2 6]) .ret))))⟩
def c86 : AFunc := ⟨2, 15, [(4, none), (5, none)], (some 
  (.seq (.region [o 4 (.mv (.c (.s []))), o 5 (.mv (.c (.b false)))]) 
  (.seq 
  (.seq (.region [m 6 0, m 7 1, o 8 (.call (.fn 128) [(.t 6), (.t 7)]), o 9 (.not (.t 8))]) (.cond (.t 9) 
  (.seq (.region [m 10 0, m 4 10, o 5 (.mv (.c (.b false)))]) .ret) .skip)) 
  (.seq (.region [m 11 0, m 12 1, o 13 (.len 0 (.t 12)), o 14 (.sliceStr (.t 11) (some (.t 13)) none), m 4 14, o 5 (.mv (.c (.b true)))]) .ret))))⟩
def c87 : AFunc := ⟨2, 23, [(4, none), (5, none), (6, none)], (some 
  (.seq (.region [o 4 (.mv (.c (.s []))), o 5 (.mv (.c (.s []))), o 6 (.mv (.c (.b false)))]) 
  (.seq 
  (.seq (.region [m 8 0, m 9 1, o 10 (.call (.fn 129) [(.t 8), (.t 9)]), m 7 10]) 
  (.seq (.region [m 11 7, o 12 (.bin .geq (.t 11) (.c (.i .i64 0)))]) (.cond (.t 12) 
  (.seq (.draw [m 13 0, m 14 7, o 15 (.sliceStr (.t 13) none (some (.t 14))), m 16 0, m 17 7, m 18 1, o 19 (.len 0 (.t 18)), o 20 (.bin .add (.t 17) (.t 19)), o 21 (.sliceStr (.t 16) (some (.t 20)) none), m 4 15, m 5 21, o 6 (.mv (.c (.b true)))]) .ret) .skip))) 
  (.seq (.region [m 22 0, m 4 22, o 5 (.mv (.c (.s []))), o 6 (.mv (.c (.b false)))]) .ret))))⟩
def c88 : AFunc := ⟨3, 8, [(6, none)], (some 
  (.seq (.region [o 3 (.box (.t 0)), o 4 (.box (.t 1)), o 5 (.box (.t 2)), o 6 (.mv (.c .nf))]) 
  (.seq (.region [o 7 (.mkFunc (.func 130) [] [(.t 4), (.t 3), (.t 5)]), m 6 7]) .ret)))⟩
def c89 : AFunc := ⟨1, 51, [(2, none)], (some 
  (.seq (.region [o 2 (.mv (.c (.b false)))]) 
  (.seq 
  (.seq (.region [m 6 0, o 7 (.len 0 (.t 6)), o 8 (.bin .lss (.t 7) (.c (.i .i64 1))), m 9 8, ⟨(some 10), .mv (.t 0), (some (9, false)), []⟩, ⟨(some 11), .len 0 (.t 10), (some (9, false)), []⟩, ⟨(some 12), .bin .gtr (.t 11) (.c (.i .i64 16)), (some (9, false)), []⟩, o 13 (.pick (.t 9) (.c (.b true)) (.t 12))]) (.cond (.t 13) 
  (.seq (.region [o 2 (.mv (.c (.b false)))]) .ret) .skip)) 
  (.seq 
  (.seq (.region [o 3 (.mv (.c (.i .i64 0)))]) (.block 0 (.loop 
  (.seq 
  (.seq (.region [m 14 3, m 15 0, o 16 (.len 0 (.t 15)), o 17 (.bin .lss (.t 14) (.t 16))]) (.cond (.t 17) .skip (.exit 0))) 
  (.seq (.block 1 
  (.seq (.region [m 20 0, m 21 3, o 22 (.indexStr (.t 20) (.t 21)), m 4 22]) 
  (.seq (.region [m 23 4, o 24 (.bin .geq (.t 23) (.c (.i .u8 97))), m 25 24, ⟨(some 26), .mv (.t 4), (some (25, true)), []⟩, ⟨(some 27), .bin .leq (.t 26) (.c (.i .u8 122)), (some (25, true)), []⟩, o 28 (.pick (.t 25) (.t 27) (.c (.b false))), m 29 28, ⟨(some 30), .mv (.t 4), (some (29, false)), []⟩, ⟨(some 31), .bin .geq (.t 30) (.c (.i .u8 65)), (some (29, false)), []⟩, ⟨(some 32), .mv (.t 31), (some (29, false)), []⟩, ⟨(some 33), .mv (.t 4), (some (32, true)), []⟩, ⟨(some 34), .bin .leq (.t 33) (.c (.i .u8 90)), (some (32, true)), []⟩, ⟨(some 35), .pick (.t 32) (.t 34) (.c (.b false)), (some (29, false)), []⟩, o 36 (.pick (.t 29) (.c (.b true)) (.t 35)), m 5 36]) 
  (.seq (.region [m 37 5, o 38 (.not (.t 37)), m 39 38, ⟨(some 40), .mv (.t 3), (some (39, true)), []⟩, ⟨(some 41), .bin .eql (.t 40) (.c (.i .i64 0)), (some (39, true)), []⟩, ⟨(some 42), .mv (.t 41), (some (39, true)), []⟩, ⟨(some 43), .mv (.t 4), (some (42, false)), []⟩, ⟨(some 44), .bin .lss (.t 43) (.c (.i .u8 48)), (some (42, false)), []⟩, ⟨(some 45), .pick (.t 42) (.c (.b true)) (.t 44), (some (39, true)), []⟩, ⟨(some 46), .mv (.t 45), (some (39, true)), []⟩, ⟨(some 47), .mv (.t 4), (some (46, false)), []⟩, ⟨(some 48), .bin .gtr (.t 47) (.c (.i .u8 57)), (some (46, false)), []⟩, ⟨(some 49), .pick (.t 46) (.c (.b true)) (.t 48), (some (39, true)), []⟩, o 50 (.pick (.t 39) (.t 49) (.c (.b false)))]) (.cond (.t 50) 
  (.seq (.region [o 2 (.mv (.c (.b false)))]) .ret) .skip))))) (.region [m 18 3, o 19 (.bin .add (.t 18) (.c (.i .i64 1))), m 3 19])))))) 
  (.seq (.region [o 2 (.mv (.c (.b true)))]) .ret)))))⟩
def c90 : AFunc := ⟨2, 23, [], (some 
  (.seq (.region [o 2 (.box (.t 0))]) 
  (.seq 
  (.seq (.region [o 6 (.fieldAddr 0 none (.t 2)), o 7 (.load none (.t 6)), o 8 (.bin .eql (.t 7) (.c (.i .u8 15)))]) (.cond (.t 8) (.region [m 9 1, o 10 (.fieldAddr 1 none (.t 2)), o 11 (.load none (.t 10)), u (.mapUpd (.inl 1) (.t 9) (.t 11) (.c (.b true)))]) .skip)) 
  (.seq (.region [o 12 (.fieldAddr 3 none (.t 2)), o 13 (.load none (.t 12)), o 14 (.len 1 (.t 13)), o 15 (.mv (.c (.i .i64 0)))]) (.block 0 (.loop 
  (.seq (.region [o 16 (.bin .lss (.t 15) (.t 14))]) 
  (.seq (.cond (.t 16) .skip (.exit 0)) 
  (.seq (.block 1 
  (.seq (.region [o 17 (.idxSl (some 4) (.t 13) (.t 15)), o 18 (.load (some 4) (.t 17)), o 5 (.alloc (.ag [(.i .u8 0), (.s []), .nilsl, .nilsl])), u (.store (some 4) (.t 5) (.t 18))]) (.region [o 19 (.load (some 4) (.t 5)), m 20 1, o 21 (.call (.fn 90) [(.t 19), (.t 20)])]))) (.region [o 22 (.bin .add (.t 15) (.c (.i .i64 1))), m 15 22]))))))))))⟩
def c91 : AFunc := ⟨1, 4, [(2, none)], (some (.seq (.region [o 1 (.box (.t 0)), o 2 (.mv (.c .nf))]) (.seq (.region [o 3 (.mkFunc (.func 132) [] [(.t 1)]), m 2 3]) .ret)))⟩
def c92 : AFunc := ⟨1, 14, [(2, (some none))], (some 
  (.seq (.region [o 1 (.box (.t 0)), o 2 (.alloc (.b false))]) 
  (.seq 
  (.seq (.region [o 4 (.fieldAddr 5 none (.t 1)), o 5 (.load none (.t 4)), o 6 (.bin .eql (.t 5) (.c (.s [])))]) (.cond (.t 6) 
  (.seq (.region [u (.store none (.t 2) (.c (.b true)))]) .ret) .skip)) 
  (.seq 
  (.seq (.region [o 7 (.load (some 7) (.t 1)), o 8 (.call (.fn 91) [(.t 7)])]) (.block 0 (.rangeFunc (.t 8) [9] (.region [o 3 (.alloc (.ag [(.i .u8 0), (.s []), .nilsl, .nilsl])), u (.store (some 4) (.t 3) (.t 9))]) (.block 1 
  (.seq (.region [o 10 (.load (some 4) (.t 3)), o 11 (.fieldAddr 5 none (.t 1)), o 12 (.load none (.t 11)), o 13 (.call (.fn 133) [(.t 10), (.t 12)])]) (.cond (.t 13) 
  (.seq (.region [u (.store none (.t 2) (.c (.b true)))]) .ret) .skip)))))) 
  (.seq (.region [u (.store none (.t 2) (.c (.b false)))]) .ret)))))⟩
def c93 : AFunc := ⟨2, 24, [(4, none)], (some 
  (.seq (.region [o 2 (.box (.t 0)), o 4 (.mv (.c (.b false)))]) 
  (.seq 
  (.seq (.region [o 7 (.load (some 4) (.t 2)), o 8 (.call (.fn 134) [(.t 7)]), o 9 (.len 1 (.t 8)), o 10 (.mv (.c (.i .i64 0)))]) (.block 0 (.loop 
  (.seq (.region [o 11 (.bin .lss (.t 10) (.t 9))]) 
  (.seq (.cond (.t 11) .skip (.exit 0)) 
  (.seq (.block 1 
  (.seq (.region [o 12 (.idxSl none (.t 8) (.t 10)), o 13 (.load none (.t 12)), m 6 13]) 
  (.seq (.region [m 14 6, o 15 (.sliceStr (.t 14) (some (.c (.i .i64 1))) none), o 16 (.call (.fn 135) [(.t 15)]), m 17 16, ⟨(some 18), .mv (.t 1), (some (17, true)), []⟩, ⟨(some 19), .mv (.t 6), (some (17, true)), []⟩, ⟨(some 20), .lookup (.inl 1) (.t 18) (.t 19) (.b false) false, (some (17, true)), []⟩, ⟨(some 21), .not (.t 20), (some (17, true)), []⟩, o 22 (.pick (.t 17) (.t 21) (.c (.b false)))]) (.cond (.t 22) 
  (.seq (.region [o 4 (.mv (.c (.b false)))]) .ret) .skip)))) (.region [o 23 (.bin .add (.t 10) (.c (.i .i64 1))), m 10 23]))))))) 
  (.seq (.region [o 4 (.mv (.c (.b true)))]) .ret))))⟩
def c94 : AFunc := ⟨1, 17, [(2, none)], (some 
  (.seq (.region [o 1 (.box (.t 0)), o 2 (.mv (.c (.i .u32 0)))]) 
  (.seq (.region [o 3 (.alloc (.i .u32 0))]) 
  (.seq 
  (.seq (.region [o 5 (.load (some 4) (.t 1)), o 6 (.call (.fn 136) [(.t 5)])]) (.block 0 (.rangeFunc (.t 6) [7] (.region [o 4 (.alloc (.ag [(.i .u8 0), (.s []), .nilsl, .nilsl])), u (.store (some 4) (.t 4) (.t 7))]) (.block 1 
  (.seq (.region [o 8 (.fieldAddr 0 none (.t 4)), o 9 (.load none (.t 8)), o 10 (.bin .lss (.t 9) (.c (.i .u8 32)))]) (.cond (.t 10) (.region [o 11 (.load none (.t 3)), o 12 (.fieldAddr 0 none (.t 4)), o 13 (.load none (.t 12)), o 14 (.bin .shl (.c (.i .u32 1)) (.t 13)), o 15 (.bin .or (.t 11) (.t 14)), u (.store none (.t 3) (.t 15))]) .skip)))))) 
  (.seq (.region [o 16 (.load none (.t 3)), m 2 16]) .ret)))))⟩
def c95 : AFunc := ⟨2, 37, [], (some 
  (.seq (.region [o 3 (.mv (.c .nilsl))]) 
  (.seq (.region [o 6 (.load none (.t 1)), o 7 (.len 1 (.t 6)), o 8 (.mv (.c (.i .i64 0)))]) (.block 0 (.loop 
  (.seq (.region [o 9 (.bin .lss (.t 8) (.t 7))]) 
  (.seq (.cond (.t 9) .skip (.exit 0)) 
  (.seq (.block 1 
  (.seq (.region [m 10 8, o 11 (.idxSl (some 9) (.t 6) (.t 8)), o 12 (.load (some 9) (.t 11)), o 5 (.alloc (.ag [(.i .i64 0), (.i .i64 0), (.b false), (.i .u8 0), (.s []), .nilsl, .nilsl, (.s []), .nilsl])), m 4 10, u (.store (some 9) (.t 5) (.t 12))]) 
  (.seq (.region [m 13 3, o 14 (.fieldAddr 0 none (.t 5)), o 15 (.load none (.t 14)), o 16 (.fieldAddr 1 none (.t 5)), o 17 (.load none (.t 16)), o 18 (.bin .sub (.t 15) (.t 17)), o 19 (.sliceSl none (.t 13) none (some (.t 18)) none), m 3 19]) 
  (.seq 
  (.seq (.region [o 20 (.fieldAddr 1 none (.t 5)), o 21 (.load none (.t 20)), o 22 (.mv (.c (.i .i64 0)))]) (.block 2 (.loop 
  (.seq (.region [o 23 (.bin .lss (.t 22) (.t 21))]) 
  (.seq (.cond (.t 23) .skip (.exit 2)) 
  (.seq (.block 3 (.region [m 24 3, m 25 4, o 26 (.bin .add (.t 25) (.c (.i .i64 1))), o 27 (.buildSlice none 1 [(.i .i64 0)] [(0, (.t 26))]), o 28 (.append none 8 (.t 24) (.t 27)), m 3 28])) (.region [o 29 (.bin .add (.t 22) (.c (.i .i64 1))), m 22 29]))))))) 
  (.seq (.region [m 30 0, m 31 4, o 32 (.bin .add (.t 31) (.c (.i .i64 1))), m 33 3, o 34 (.call (.val (.t 30)) [(.t 32), (.t 33)]), o 35 (.not (.t 34))]) (.cond (.t 35) .ret .skip)))))) (.region [o 36 (.bin .add (.t 8) (.c (.i .i64 1))), m 8 36])))))))))⟩
def c96 : AFunc := ⟨3, 82, [(6, none)], (some 
  (.seq (.region [o 5 (.box (.t 2)), o 6 (.mv (.c (.b false)))]) 
  (.seq (.region [m 8 0, o 9 (.nilCheck (.t 8)), o 10 (.fieldAddr 0 none (.t 9)), o 11 (.load none (.t 10)), m 12 1, o 13 (.bin .sub (.t 12) (.c (.i .i64 1))), o 14 (.idxSl (some 9) (.t 11) (.t 13)), o 15 (.fieldAddr 0 none (.t 14)), o 16 (.load none (.t 15)), o 17 (.bin .add (.t 16) (.c (.i .i64 1))), m 7 17]) 
  (.seq 
  (.seq (.draw [m 18 0, o 19 (.fieldAddr 0 none (.t 5)), o 20 (.load none (.t 19)), m 21 7, o 22 (.fieldAddr 0 none (.t 5)), o 23 (.load none (.t 22)), o 24 (.call (.fn 137) [(.t 18), (.t 20), (.t 21), (.t 23)]), o 25 (.not (.t 24)), m 26 25, ⟨(some 27), .mv (.t 0), (some (26, false)), []⟩, ⟨(some 28), .nilCheck (.t 27), (some (26, false)), []⟩, ⟨(some 29), .fieldAddr 1 none (.t 28), (some (26, false)), []⟩, ⟨(some 30), .load none (.t 29), (some (26, false)), []⟩, ⟨(some 31), .fieldAddr 0 none (.t 5), (some (26, false)), []⟩, ⟨(some 32), .load none (.t 31), (some (26, false)), []⟩, ⟨(some 33), .bin .sub (.t 32) (.c (.i .i64 1)), (some (26, false)), []⟩, ⟨(some 34), .idxSl none (.t 30) (.t 33), (some (26, false)), []⟩, ⟨(some 35), .load none (.t 34), (some (26, false)), []⟩, ⟨(some 36), .mv (.t 7), (some (26, false)), []⟩, ⟨(some 37), .bin .sub (.t 36) (.c (.i .i64 1)), (some (26, false)), []⟩, ⟨(some 38), .sliceSl none (.t 35) none (some (.t 37)) none, (some (26, false)), []⟩, ⟨(some 39), .mv (.t 0), (some (26, false)), []⟩, ⟨(some 40), .nilCheck (.t 39), (some (26, false)), []⟩, ⟨(some 41), .fieldAddr 1 none (.t 40), (some (26, false)), []⟩, ⟨(some 42), .load none (.t 41), (some (26, false)), []⟩, ⟨(some 43), .mv (.t 1), (some (26, false)), []⟩, ⟨(some 44), .bin .sub (.t 43) (.c (.i .i64 1)), (some (26, false)), []⟩, ⟨(some 45), .idxSl none (.t 42) (.t 44), (some (26, false)), []⟩, ⟨(some 46), .load none (.t 45), (some (26, false)), []⟩, ⟨(some 47), .call (.fn 138) [(.t 38), (.t 46)], (some (26, false)), []⟩, ⟨(some 48), .not (.t 47), (some (26, false)), []⟩, o 49 (.pick (.t 26) (.c (.b true)) (.t 48))]) (.cond (.t 49) 
  (.seq (.region [o 6 (.mv (.c (.b false)))]) .ret) .skip)) 
  (.seq (.draw [m 50 0, o 51 (.nilCheck (.t 50)), o 52 (.fieldAddr 0 none (.t 51)), o 53 (.load none (.t 52)), o 54 (.fieldAddr 1 none (.t 5)), o 55 (.load none (.t 54)), o 56 (.bin .sub (.t 55) (.c (.i .i64 1))), o 57 (.idxSl (some 9) (.t 53) (.t 56)), o 58 (.fieldAddr 0 none (.t 57)), o 59 (.load none (.t 58)), m 60 7, o 61 (.bin .eql (.t 59) (.t 60)), m 62 61, ⟨(some 63), .mv (.t 0), (some (62, true)), []⟩, ⟨(some 64), .fieldAddr 1 none (.t 5), (some (62, true)), []⟩, ⟨(some 65), .load none (.t 64), (some (62, true)), []⟩, ⟨(some 66), .mv (.t 7), (some (62, true)), []⟩, ⟨(some 67), .fieldAddr 0 none (.t 5), (some (62, true)), []⟩, ⟨(some 68), .load none (.t 67), (some (62, true)), []⟩, ⟨(some 69), .call (.fn 137) [(.t 63), (.t 65), (.t 66), (.t 68)], (some (62, true)), []⟩, o 70 (.pick (.t 62) (.t 69) (.c (.b false))), m 71 70, ⟨(some 72), .mv (.t 0), (some (71, true)), []⟩, ⟨(some 73), .fieldAddr 1 none (.t 5), (some (71, true)), []⟩, ⟨(some 74), .load none (.t 73), (some (71, true)), []⟩, ⟨(some 75), .bin .add (.t 74) (.c (.i .i64 1)), (some (71, true)), []⟩, ⟨(some 76), .mv (.t 7), (some (71, true)), []⟩, ⟨(some 77), .fieldAddr 0 none (.t 5), (some (71, true)), []⟩, ⟨(some 78), .load none (.t 77), (some (71, true)), []⟩, ⟨(some 79), .call (.fn 137) [(.t 72), (.t 75), (.t 76), (.t 78)], (some (71, true)), []⟩, ⟨(some 80), .not (.t 79), (some (71, true)), []⟩, o 81 (.pick (.t 71) (.t 80) (.c (.b false))), m 6 81]) .ret)))))⟩
def c97 : AFunc := ⟨3, 49, [(6, none)], (some 
  (.seq (.region [o 5 (.box (.t 2)), o 6 (.mv (.c .nilsl))]) 
  (.seq (.draw [m 11 0, o 12 (.fieldAddr 0 none (.t 5)), o 13 (.load none (.t 12)), m 14 0, o 15 (.nilCheck (.t 14)), o 16 (.fieldAddr 0 none (.t 15)), o 17 (.load none (.t 16)), m 18 1, o 19 (.bin .sub (.t 18) (.c (.i .i64 1))), o 20 (.idxSl (some 9) (.t 17) (.t 19)), o 21 (.fieldAddr 0 none (.t 20)), o 22 (.load none (.t 21)), o 23 (.bin .add (.t 22) (.c (.i .i64 1))), o 24 (.call (.fn 139) [(.t 11), (.t 13), (.t 23)]), m 7 24]) 
  (.seq (.region [o 8 (.mv (.c .nilsl))]) 
  (.seq 
  (.seq (.draw [m 25 0, o 26 (.nilCheck (.t 25)), o 27 (.fieldAddr 2 none (.t 26)), o 28 (.load none (.t 27)), o 29 (.fieldAddr 1 none (.t 5)), o 30 (.load none (.t 29)), o 31 (.bin .sub (.t 30) (.c (.i .i64 1))), o 32 (.idxSl none (.t 28) (.t 31)), o 33 (.load none (.t 32)), o 34 (.len 1 (.t 33)), o 35 (.mv (.c (.i .i64 0)))]) (.block 0 (.loop 
  (.seq (.region [o 36 (.bin .lss (.t 35) (.t 34))]) 
  (.seq (.cond (.t 36) .skip (.exit 0)) 
  (.seq (.block 1 
  (.seq (.region [o 37 (.idxSl none (.t 33) (.t 35)), o 38 (.load none (.t 37)), m 10 38]) 
  (.seq (.region [m 39 7, m 40 10, o 41 (.call (.fn 140) [(.t 39), (.t 40)]), o 42 (.not (.t 41))]) (.cond (.t 42) (.region [m 43 8, m 44 10, o 45 (.buildSlice none 1 [(.i .i64 0)] [(0, (.t 44))]), o 46 (.append none 8 (.t 43) (.t 45)), m 8 46]) .skip)))) (.region [o 47 (.bin .add (.t 35) (.c (.i .i64 1))), m 35 47]))))))) 
  (.seq (.region [m 48 8, m 6 48]) .ret))))))⟩
def c98 : AFunc := ⟨2, 21, [(4, none)], (some 
  (.seq (.region [o 2 (.box (.t 0)), o 3 (.box (.t 1)), o 4 (.mv (.c (.b false)))]) 
  (.seq (.draw [o 5 (.load (some 4) (.t 3)), o 6 (.call (.fn 100) [(.t 5)]), m 7 6, ⟨(some 8), .load (some 4) (.t 3), (some (7, true)), []⟩, ⟨(some 10), .fieldAddr 1 none (.t 2), (some (7, true)), []⟩, ⟨(some 11), .load none (.t 10), (some (7, true)), [14]⟩, ⟨(some 9), .call (.fn 94) [(.t 8)], (some (7, true)), []⟩, ⟨(some 12), .bin .andNot (.t 9) (.t 11), (some (7, true)), []⟩, ⟨(some 13), .bin .eql (.t 12) (.c (.i .u32 0)), (some (7, true)), []⟩, o 14 (.pick (.t 7) (.t 13) (.c (.b false))), m 15 14, ⟨(some 16), .fieldAddr 2 none (.t 2), (some (15, true)), []⟩, ⟨(some 17), .load none (.t 16), (some (15, true)), []⟩, ⟨(some 18), .load (some 4) (.t 3), (some (15, true)), []⟩, ⟨(some 19), .call (.fn 141) [(.t 17), (.t 18)], (some (15, true)), []⟩, o 20 (.pick (.t 15) (.t 19) (.c (.b false))), m 4 20]) .ret)))⟩
def c99 : AFunc := ⟨2, 8, [(4, (some (some 2)))], (some 
  (.seq (.region [o 2 (.box (.t 0)), o 3 (.box (.t 1)), o 4 (.alloc (.ag [.nf, .nf]))]) 
  (.seq (.region [o 5 (.mkFunc (.func 142) [] [(.t 2), (.t 3)]), o 6 (.mkFunc (.func 144) [] [(.t 2), (.t 3)]), o 7 (.build [.nf, .nf] [(0, 1, (.t 5)), (1, 1, (.t 6))]), u (.store (some 2) (.t 4) (.t 7))]) .ret)))⟩
def c100 : AFunc := ⟨1, 7, [(2, none)], (some 
  (.seq (.region [o 1 (.box (.t 0)), o 2 (.mv (.c (.b false)))]) 
  (.seq (.region [o 4 (.build [(.b false), (.i .i64 0), (.i .i64 0)] [(1, 1, (.c (.i .i64 400))), (2, 1, (.c (.i .i64 40)))]), o 3 (.alloc (.ag [(.b false), (.i .i64 0), (.i .i64 0)])), u (.store (some 3) (.t 3) (.t 4))]) 
  (.seq (.region [o 5 (.load (some 4) (.t 1)), o 6 (.call (.fn 123) [(.t 3), (.t 5), (.c (.i .i64 1))]), m 2 6]) .ret))))⟩
def c101 : AFunc := ⟨3, 95, [(6, none)], (some 
  (.seq (.region [o 3 (.box (.t 0)), o 4 (.box (.t 1)), o 6 (.mv (.c (.b false)))]) 
  (.seq 
  (.seq (.region [o 11 (.fieldAddr 0 none (.t 3)), o 12 (.load none (.t 11)), o 13 (.fieldAddr 0 none (.t 4)), o 14 (.load none (.t 13)), o 15 (.bin .neq (.t 12) (.t 14)), m 16 15, ⟨(some 17), .fieldAddr 2 none (.t 3), (some (16, false)), []⟩, ⟨(some 18), .load none (.t 17), (some (16, false)), []⟩, ⟨(some 19), .len 1 (.t 18), (some (16, false)), []⟩, ⟨(some 20), .fieldAddr 2 none (.t 4), (some (16, false)), []⟩, ⟨(some 21), .load none (.t 20), (some (16, false)), []⟩, ⟨(some 22), .len 1 (.t 21), (some (16, false)), []⟩, ⟨(some 23), .bin .neq (.t 19) (.t 22), (some (16, false)), []⟩, o 24 (.pick (.t 16) (.c (.b true)) (.t 23)), m 25 24, ⟨(some 26), .fieldAddr 3 none (.t 3), (some (25, false)), []⟩, ⟨(some 27), .load none (.t 26), (some (25, false)), []⟩, ⟨(some 28), .len 1 (.t 27), (some (25, false)), []⟩, ⟨(some 29), .fieldAddr 3 none (.t 4), (some (25, false)), []⟩, ⟨(some 30), .load none (.t 29), (some (25, false)), []⟩, ⟨(some 31), .len 1 (.t 30), (some (25, false)), []⟩, ⟨(some 32), .bin .neq (.t 28) (.t 31), (some (25, false)), []⟩, o 33 (.pick (.t 25) (.c (.b true)) (.t 32))]) (.cond (.t 33) 
  (.seq (.region [o 6 (.mv (.c (.b false)))]) .ret) .skip)) 
  (.seq 
  (.seq (.region [o 34 (.load (some 4) (.t 3)), o 35 (.call (.fn 145) [(.t 34)]), o 36 (.not (.t 35)), m 37 36, ⟨(some 38), .fieldAddr 1 none (.t 3), (some (37, true)), []⟩, ⟨(some 39), .load none (.t 38), (some (37, true)), []⟩, ⟨(some 40), .fieldAddr 1 none (.t 4), (some (37, true)), []⟩, ⟨(some 41), .load none (.t 40), (some (37, true)), []⟩, ⟨(some 42), .bin .neq (.t 39) (.t 41), (some (37, true)), []⟩, o 43 (.pick (.t 37) (.t 42) (.c (.b false)))]) (.cond (.t 43) 
  (.seq (.region [o 6 (.mv (.c (.b false)))]) .ret) .skip)) 
  (.seq 
  (.seq (.region [o 44 (.fieldAddr 2 none (.t 3)), o 45 (.load none (.t 44)), o 46 (.len 1 (.t 45)), o 47 (.mv (.c (.i .i64 0)))]) (.block 0 (.loop 
  (.seq (.region [o 48 (.bin .lss (.t 47) (.t 46))]) 
  (.seq (.cond (.t 48) .skip (.exit 0)) 
  (.seq (.block 1 
  (.seq (.region [m 49 47, o 50 (.idxSl (some 3) (.t 45) (.t 47)), o 51 (.load (some 3) (.t 50)), o 8 (.alloc (.ag [(.b false), (.s []), .nilsl])), m 7 49, u (.store (some 3) (.t 8) (.t 51))]) 
  (.seq (.draw [o 52 (.load (some 3) (.t 8)), o 53 (.fieldAddr 2 none (.t 4)), o 54 (.load none (.t 53)), m 55 7, o 56 (.idxSl (some 3) (.t 54) (.t 55)), o 57 (.load (some 3) (.t 56)), m 58 2, o 59 (.call (.fn 146) [(.t 52), (.t 57), (.t 58)]), o 60 (.not (.t 59))]) (.cond (.t 60) 
  (.seq (.region [o 6 (.mv (.c (.b false)))]) .ret) .skip)))) (.region [o 61 (.bin .add (.t 47) (.c (.i .i64 1))), m 47 61]))))))) 
  (.seq 
  (.seq (.region [o 62 (.load (some 4) (.t 3)), o 63 (.call (.fn 145) [(.t 62)])]) (.cond (.t 63) (.draw [m 64 2, m 65 2, ⟨(some 66), .len 1 (.t 65), none, [12]⟩, m 67 2, ⟨(some 68), .len 1 (.t 67), none, [12]⟩, o 69 (.sliceSl (some 2) (.t 64) none (some (.t 66)) (some (.t 68))), o 70 (.fieldAddr 1 none (.t 3)), ⟨(some 71), .load none (.t 70), none, [12]⟩, o 72 (.fieldAddr 1 none (.t 4)), ⟨(some 73), .load none (.t 72), none, [12]⟩, o 74 (.build [(.s []), (.s [])] [(0, 1, (.t 71)), (1, 1, (.t 73))]), o 75 (.buildSlice (some 2) 1 [(.s []), (.s [])] [(0, (.t 74))]), o 76 (.append (some 2) 32 (.t 69) (.t 75)), m 2 76]) .skip)) 
  (.seq 
  (.seq (.region [o 77 (.fieldAddr 3 none (.t 3)), o 78 (.load none (.t 77)), o 79 (.len 1 (.t 78)), o 80 (.mv (.c (.i .i64 0)))]) (.block 2 (.loop 
  (.seq (.region [o 81 (.bin .lss (.t 80) (.t 79))]) 
  (.seq (.cond (.t 81) .skip (.exit 2)) 
  (.seq (.block 3 
  (.seq (.region [m 82 80, o 83 (.idxSl (some 4) (.t 78) (.t 80)), o 84 (.load (some 4) (.t 83)), o 10 (.alloc (.ag [(.i .u8 0), (.s []), .nilsl, .nilsl])), m 9 82, u (.store (some 4) (.t 10) (.t 84))]) 
  (.seq (.draw [o 85 (.load (some 4) (.t 10)), o 86 (.fieldAddr 3 none (.t 4)), o 87 (.load none (.t 86)), m 88 9, o 89 (.idxSl (some 4) (.t 87) (.t 88)), o 90 (.load (some 4) (.t 89)), m 91 2, o 92 (.call (.fn 101) [(.t 85), (.t 90), (.t 91)]), o 93 (.not (.t 92))]) (.cond (.t 93) 
  (.seq (.region [o 6 (.mv (.c (.b false)))]) .ret) .skip)))) (.region [o 94 (.bin .add (.t 80) (.c (.i .i64 1))), m 80 94]))))))) 
  (.seq (.region [o 6 (.mv (.c (.b true)))]) .ret))))))))⟩
def c102 : AFunc := ⟨2, 6, [(4, none)], (some (.seq (.region [o 2 (.box (.t 0)), o 3 (.box (.t 1)), o 4 (.mv (.c .nf))]) (.seq (.region [o 5 (.mkFunc (.func 147) [] [(.t 2), (.t 3)]), m 4 5]) .ret)))⟩
def c103 : AFunc := ⟨1, 46, [(2, (some (some 3)))], (some 
  (.seq (.region [o 2 (.alloc (.ag [(.i .u8 0), (.i .i64 0), (.i .i64 0)]))]) 
  (.seq 
  (.seq (.draw [m 5 0, o 6 (.nilCheck (.t 5)), o 7 (.fieldAddr 10 none (.t 6)), o 8 (.load none (.t 7)), o 9 (.len 1 (.t 8)), m 10 0, o 11 (.nilCheck (.t 10)), o 12 (.fieldAddr 0 (some 6) (.t 11)), o 13 (.fieldAddr 1 none (.t 12)), o 14 (.load none (.t 13)), o 15 (.len 1 (.t 14)), o 16 (.bin .neq (.t 9) (.t 15))]) (.cond (.t 16) 
  (.seq (.region [o 17 (.build [(.i .u8 0), (.i .i64 0), (.i .i64 0)] [(0, 1, (.c (.i .u8 1)))]), u (.store (some 3) (.t 2) (.t 17))]) .ret) .skip)) 
  (.seq 
  (.seq (.region [m 18 0, o 19 (.nilCheck (.t 18)), o 20 (.fieldAddr 0 (some 6) (.t 19)), o 21 (.fieldAddr 1 none (.t 20)), o 22 (.load none (.t 21)), o 23 (.len 1 (.t 22)), o 24 (.mv (.c (.i .i64 0)))]) (.block 0 (.loop 
  (.seq (.region [o 25 (.bin .lss (.t 24) (.t 23))]) 
  (.seq (.cond (.t 25) .skip (.exit 0)) 
  (.seq (.block 1 
  (.seq (.region [m 26 24, o 27 (.idxSl (some 7) (.t 22) (.t 24)), o 28 (.load (some 7) (.t 27)), o 4 (.alloc (.ag [.nilsl, (.i .u8 0), (.s []), .nilsl, .nilsl, (.s []), (.b false)])), m 3 26, u (.store (some 7) (.t 4) (.t 28))]) 
  (.seq (.draw [m 29 0, o 30 (.nilCheck (.t 29)), o 31 (.fieldAddr 10 none (.t 30)), o 32 (.load none (.t 31)), m 33 3, o 34 (.idxSl (some 6) (.t 32) (.t 33)), o 35 (.fieldAddr 4 none (.t 34)), o 36 (.load none (.t 35)), o 37 (.len 1 (.t 36)), o 38 (.fieldAddr 0 none (.t 4)), o 39 (.load none (.t 38)), o 40 (.len 1 (.t 39)), o 41 (.bin .neq (.t 37) (.t 40))]) (.cond (.t 41) 
  (.seq (.region [m 42 3, o 43 (.build [(.i .u8 0), (.i .i64 0), (.i .i64 0)] [(0, 1, (.c (.i .u8 1))), (1, 1, (.t 42))]), u (.store (some 3) (.t 2) (.t 43))]) .ret) .skip)))) (.region [o 44 (.bin .add (.t 24) (.c (.i .i64 1))), m 24 44]))))))) 
  (.seq (.region [o 45 (.build [(.i .u8 0), (.i .i64 0), (.i .i64 0)] []), u (.store (some 3) (.t 2) (.t 45))]) .ret)))))⟩
def c104 : AFunc := ⟨1, 117, [(2, (some (some 3)))], (some 
  (.seq (.region [o 2 (.alloc (.ag [(.i .u8 0), (.i .i64 0), (.i .i64 0)]))]) 
  (.seq (.region [o 3 (.alloc .nilsl)]) 
  (.seq (.region [o 4 (.alloc .nilsl)]) 
  (.seq (.region [o 15 (.mkFunc (.func 148) [] [(.t 3), (.t 4)]), m 5 15]) 
  (.seq 
  (.seq (.region [m 16 0, o 17 (.nilCheck (.t 16)), o 18 (.fieldAddr 0 (some 6) (.t 17)), o 19 (.fieldAddr 1 none (.t 18)), o 20 (.load none (.t 19)), o 21 (.len 1 (.t 20)), o 22 (.mv (.c (.i .i64 0)))]) (.block 0 (.loop 
  (.seq (.region [o 23 (.bin .lss (.t 22) (.t 21))]) 
  (.seq (.cond (.t 23) .skip (.exit 0)) 
  (.seq (.block 1 
  (.seq (.region [m 24 22, o 25 (.idxSl (some 7) (.t 20) (.t 22)), o 26 (.load (some 7) (.t 25)), o 7 (.alloc (.ag [.nilsl, (.i .u8 0), (.s []), .nilsl, .nilsl, (.s []), (.b false)])), m 6 24, u (.store (some 7) (.t 7) (.t 26))]) (.draw [m 27 5, o 28 (.fieldAddr 1 (some 4) (.t 7)), o 29 (.load (some 4) (.t 28)), m 30 0, o 31 (.nilCheck (.t 30)), o 32 (.fieldAddr 10 none (.t 31)), o 33 (.load none (.t 32)), m 34 6, o 35 (.idxSl (some 6) (.t 33) (.t 34)), o 36 (.fieldAddr 0 (some 4) (.t 35)), o 37 (.load (some 4) (.t 36)), m 38 6, o 39 (.call (.val (.t 27)) [(.t 29), (.t 37), (.t 38), (.c (.i .i64 0))])]))) (.region [o 40 (.bin .add (.t 22) (.c (.i .i64 1))), m 22 40]))))))) 
  (.seq 
  (.seq (.region [m 41 0, o 42 (.nilCheck (.t 41)), o 43 (.fieldAddr 0 (some 6) (.t 42)), o 44 (.fieldAddr 1 none (.t 43)), o 45 (.load none (.t 44)), o 46 (.len 1 (.t 45)), o 47 (.mv (.c (.i .i64 0)))]) (.block 2 (.loop 
  (.seq (.region [o 48 (.bin .lss (.t 47) (.t 46))]) 
  (.seq (.cond (.t 48) .skip (.exit 2)) 
  (.seq (.block 3 
  (.seq (.region [m 49 47, o 50 (.idxSl (some 7) (.t 45) (.t 47)), o 51 (.load (some 7) (.t 50)), o 9 (.alloc (.ag [.nilsl, (.i .u8 0), (.s []), .nilsl, .nilsl, (.s []), (.b false)])), m 8 49, u (.store (some 7) (.t 9) (.t 51))]) 
  (.seq (.region [m 52 0, o 53 (.nilCheck (.t 52)), o 54 (.fieldAddr 10 none (.t 53)), o 55 (.load none (.t 54)), m 56 8, o 57 (.idxSl (some 6) (.t 55) (.t 56)), o 58 (.fieldAddr 4 none (.t 57)), o 59 (.load none (.t 58)), o 60 (.len 1 (.t 59)), o 61 (.mv (.c (.i .i64 0)))]) (.block 4 (.loop 
  (.seq (.region [o 62 (.bin .lss (.t 61) (.t 60))]) 
  (.seq (.cond (.t 62) .skip (.exit 4)) 
  (.seq (.block 5 
  (.seq (.region [m 63 61, o 64 (.idxSl (some 5) (.t 59) (.t 61)), o 65 (.load (some 5) (.t 64)), o 11 (.alloc (.ag [(.b false), (.i .u8 0), (.s []), .nilsl, .nilsl])), m 10 63, u (.store (some 5) (.t 11) (.t 65))]) 
  (.seq (.region [o 66 (.fieldAddr 0 none (.t 11)), o 67 (.load none (.t 66))]) (.cond (.t 67) (.draw [m 68 5, o 69 (.fieldAddr 0 none (.t 9)), o 70 (.load none (.t 69)), m 71 10, o 72 (.idxSl (some 4) (.t 70) (.t 71)), o 73 (.load (some 4) (.t 72)), o 74 (.fieldAddr 1 (some 4) (.t 11)), o 75 (.load (some 4) (.t 74)), m 76 8, m 77 10, o 78 (.bin .add (.t 77) (.c (.i .i64 1))), o 79 (.call (.val (.t 68)) [(.t 73), (.t 75), (.t 76), (.t 78)])]) .skip)))) (.region [o 80 (.bin .add (.t 61) (.c (.i .i64 1))), m 61 80]))))))))) (.region [o 81 (.bin .add (.t 47) (.c (.i .i64 1))), m 47 81]))))))) 
  (.seq (.draw [m 82 5, m 83 0, o 84 (.nilCheck (.t 83)), o 85 (.fieldAddr 0 (some 6) (.t 84)), o 86 (.fieldAddr 2 (some 4) (.t 85)), o 87 (.load (some 4) (.t 86)), m 88 0, o 89 (.nilCheck (.t 88)), o 90 (.fieldAddr 6 (some 4) (.t 89)), o 91 (.load (some 4) (.t 90)), m 92 0, o 93 (.nilCheck (.t 92)), o 94 (.fieldAddr 0 (some 6) (.t 93)), o 95 (.fieldAddr 1 none (.t 94)), o 96 (.load none (.t 95)), o 97 (.len 1 (.t 96)), o 98 (.call (.val (.t 82)) [(.t 87), (.t 91), (.t 97), (.c (.i .i64 0))])]) 
  (.seq (.region [o 100 (.load none (.t 3)), o 101 (.build [.nilsl, .nilsl] []), o 102 (.call (.fn 149) [(.t 100), (.t 101)]), m 99 102, o 103 (.extract (.t 99) 0), o 104 (.extract (.t 99) 1), o 105 (.extract (.t 99) 2), o 12 (.alloc (.ag [.nilsl, .nilsl])), u (.store (some 2) (.t 12) (.t 103)), m 13 104, m 14 105]) 
  (.seq 
  (.seq (.region [m 106 14, o 107 (.bin .neq (.t 106) (.c (.i .i64 0)))]) (.cond (.t 107) 
  (.seq (.region [o 108 (.load none (.t 4)), m 109 13, o 110 (.idxSl (some 3) (.t 108) (.t 109)), o 111 (.load (some 3) (.t 110)), u (.store (some 3) (.t 2) (.t 111))]) .ret) .skip)) 
  (.seq (.region [m 112 0, o 113 (.load (some 2) (.t 12)), o 114 (.nilCheck (.t 112)), o 115 (.fieldAddr 11 (some 2) (.t 114)), u (.store (some 2) (.t 115) (.t 113))]) 
  (.seq (.region [o 116 (.build [(.i .u8 0), (.i .i64 0), (.i .i64 0)] []), u (.store (some 3) (.t 2) (.t 116))]) .ret))))))))))))⟩
def c105 : AFunc := ⟨1, 40, [(2, (some (some 3)))], (some 
  (.seq (.region [o 2 (.alloc (.ag [(.i .u8 0), (.i .i64 0), (.i .i64 0)]))]) 
  (.seq 
  (.seq (.region [m 9 0, o 10 (.nilCheck (.t 9)), o 11 (.fieldAddr 0 (some 6) (.t 10)), o 12 (.fieldAddr 1 none (.t 11)), o 13 (.load none (.t 12)), o 14 (.len 1 (.t 13)), o 15 (.mv (.c (.i .i64 0)))]) (.block 0 (.loop 
  (.seq (.region [o 16 (.bin .lss (.t 15) (.t 14))]) 
  (.seq (.cond (.t 16) .skip (.exit 0)) 
  (.seq (.block 1 
  (.seq (.region [m 17 15, m 3 17]) 
  (.seq (.region [m 18 0, m 19 3, o 20 (.call (.fn 150) [(.t 18), (.t 19)]), o 21 (.len 1 (.t 20)), o 22 (.mv (.c (.i .i64 0)))]) (.block 2 (.loop 
  (.seq (.region [o 23 (.bin .lss (.t 22) (.t 21))]) 
  (.seq (.cond (.t 23) .skip (.exit 2)) 
  (.seq (.block 3 
  (.seq (.region [o 24 (.idxSl none (.t 20) (.t 22)), o 25 (.load none (.t 24)), m 5 25]) 
  (.seq (.region [m 27 5, o 28 (.call (.val (.t 27)) []), m 26 28, o 29 (.extract (.t 26) 0), o 30 (.extract (.t 26) 1), o 31 (.extract (.t 26) 2), m 6 29, m 7 30, m 8 31]) 
  (.seq (.region [m 32 8]) (.cond (.t 32) 
  (.seq (.region [m 33 6, m 34 3, m 35 7, o 36 (.build [(.i .u8 0), (.i .i64 0), (.i .i64 0)] [(0, 1, (.t 33)), (1, 1, (.t 34)), (2, 1, (.t 35))]), u (.store (some 3) (.t 2) (.t 36))]) .ret) .skip))))) (.region [o 37 (.bin .add (.t 22) (.c (.i .i64 1))), m 22 37]))))))))) (.region [o 38 (.bin .add (.t 15) (.c (.i .i64 1))), m 15 38]))))))) 
  (.seq (.region [o 39 (.build [(.i .u8 0), (.i .i64 0), (.i .i64 0)] []), u (.store (some 3) (.t 2) (.t 39))]) .ret))))⟩
def c106 : AFunc := ⟨1, 40, [(2, none)], (some 
  (.seq (.region [o 1 (.box (.t 0)), o 2 (.mv (.c (.m none)))]) 
  (.seq (.region [o 8 (.mkMap), o 3 (.alloc (.m none)), u (.store none (.t 3) (.t 8))]) 
  (.seq 
  (.seq (.region [o 9 (.call (.fn 40) [(.t 1)])]) (.block 0 (.rangeFunc (.t 9) [10, 11] (.region [m 5 11]) (.block 1 
  (.seq (.draw [⟨(some 13), .load none (.t 3), none, [10]⟩, m 14 5, o 15 (.nilCheck (.t 14)), o 16 (.fieldAddr 5 none (.t 15)), ⟨(some 17), .load none (.t 16), none, [10]⟩, ⟨(some 18), .lookup (.inl 0) (.t 13) (.t 17) (.ag [(.i .u8 0), (.s []), .nilsl, .nilsl]) true, none, [10]⟩, m 12 18, o 19 (.extract (.t 12) 0), o 20 (.extract (.t 12) 1), o 6 (.alloc (.ag [(.i .u8 0), (.s []), .nilsl, .nilsl])), u (.store (some 4) (.t 6) (.t 19)), m 7 20]) 
  (.seq (.region [m 21 5, o 22 (.nilCheck (.t 21)), o 23 (.fieldAddr 0 none (.t 22)), o 24 (.load none (.t 23)), o 25 (.bin .eql (.t 24) (.c (.s []))), m 26 25, ⟨(some 27), .mv (.t 7), (some (26, true)), []⟩, ⟨(some 28), .not (.t 27), (some (26, true)), []⟩, o 29 (.pick (.t 26) (.t 28) (.c (.b false)))]) (.cond (.t 29) (.draw [o 30 (.load none (.t 3)), m 31 5, o 32 (.nilCheck (.t 31)), o 33 (.fieldAddr 5 none (.t 32)), o 34 (.load none (.t 33)), m 35 5, o 36 (.nilCheck (.t 35)), o 37 (.fieldAddr 1 (some 4) (.t 36)), o 38 (.load (some 4) (.t 37)), u (.mapUpd (.inl 0) (.t 30) (.t 34) (.t 38))]) .skip))))))) 
  (.seq (.region [o 39 (.load none (.t 3)), m 2 39]) .ret)))))⟩
def c107 : AFunc := ⟨3, 61, [(6, none)], (some 
  (.seq (.region [o 6 (.mv (.c (.m none)))]) 
  (.seq (.region [o 7 (.mv (.c .nilsl))]) 
  (.seq 
  (.seq (.region [m 11 1, o 12 (.nilCheck (.t 11)), o 13 (.fieldAddr 6 none (.t 12)), o 14 (.load none (.t 13)), o 15 (.len 1 (.t 14)), o 16 (.mv (.c (.i .i64 0)))]) (.block 0 (.loop 
  (.seq (.region [o 17 (.bin .lss (.t 16) (.t 15))]) 
  (.seq (.cond (.t 17) .skip (.exit 0)) 
  (.seq (.block 1 
  (.seq (.region [m 18 16, m 8 18]) (.draw [m 19 7, m 20 0, m 21 1, o 22 (.nilCheck (.t 21)), o 23 (.fieldAddr 6 none (.t 22)), ⟨(some 24), .load none (.t 23), none, [11, 12, 13]⟩, m 25 8, o 26 (.idxSl (some 8) (.t 24) (.t 25)), m 27 2, m 29 8, o 30 (.buildSlice none 1 [(.i .i64 0)] [(0, (.t 29))]), o 28 (.call (.fn 57) [(.t 27)]), o 31 (.append none 8 (.t 28) (.t 30)), o 32 (.call (.fn 107) [(.t 20), (.t 26), (.t 31)]), o 33 (.buildSlice none 1 [(.m none)] [(0, (.t 32))]), o 34 (.append none 8 (.t 19) (.t 33)), m 7 34]))) (.region [o 35 (.bin .add (.t 16) (.c (.i .i64 1))), m 16 35]))))))) 
  (.seq 
  (.seq (.region [m 37 0, m 38 1, m 39 7, o 40 (.call (.fn 151) [(.t 37), (.t 38), (.t 39)]), m 36 40, o 41 (.extract (.t 36) 0), o 42 (.extract (.t 36) 1), o 10 (.alloc (.ag [(.i .u8 0), (.i .i64 0), (.i .i64 0)])), m 9 41, u (.store (some 3) (.t 10) (.t 42))]) 
  (.seq (.region [m 43 9, o 44 (.bin .neq (.t 43) (.c (.i .u8 0)))]) (.cond (.t 44) (.draw [m 45 0, m 46 0, o 47 (.nilCheck (.t 46)), o 48 (.fieldAddr 7 none (.t 47)), ⟨(some 49), .load none (.t 48), none, [10]⟩, m 50 2, m 51 9, ⟨(some 52), .load (some 3) (.t 10), none, [10]⟩, o 53 (.build [.nilsl, (.i .u8 0), (.i .u8 0), (.i .i64 0), (.i .i64 0)] [(0, 1, (.t 50)), (1, 1, (.t 51)), (2, 3, (.t 52))]), o 54 (.buildSlice (some 5) 1 [.nilsl, (.i .u8 0), (.i .u8 0), (.i .i64 0), (.i .i64 0)] [(0, (.t 53))]), o 55 (.append (some 5) 56 (.t 49) (.t 54)), o 56 (.nilCheck (.t 45)), o 57 (.fieldAddr 7 none (.t 56)), u (.store none (.t 57) (.t 55))]) .skip))) 
  (.seq (.region [m 58 1, m 59 7, o 60 (.call (.fn 152) [(.t 58), (.t 59)]), m 6 60]) .ret))))))⟩
def c108 : AFunc := ⟨1, 9, [(2, none)], (some 
  (.seq (.region [o 2 (.mv (.c .nilsl))]) 
  (.seq (.region [m 4 0, o 5 (.call (.fn 153) [(.t 4)]), m 3 5]) 
  (.seq (.region [m 6 3, o 7 (.call (.fn 154) [(.t 6)])]) 
  (.seq (.region [m 8 3, m 2 8]) .ret)))))⟩
def c109 : AFunc := ⟨1, 4, [(2, none)], (some (.seq (.region [o 1 (.box (.t 0)), o 2 (.mv (.c .nf))]) (.seq (.region [o 3 (.mkFunc (.func 155) [] [(.t 1)]), m 2 3]) .ret)))⟩
def c110 : AFunc := ⟨1, 27, [(2, none)], (some 
  (.seq (.region [o 2 (.mv (.c (.m none)))]) 
  (.seq (.region [o 3 (.mv (.c .nilsl))]) 
  (.seq 
  (.seq (.region [m 5 0, o 6 (.nilCheck (.t 5)), o 7 (.fieldAddr 6 none (.t 6)), o 8 (.load none (.t 7)), o 9 (.len 1 (.t 8)), o 10 (.mv (.c (.i .i64 0)))]) (.block 0 (.loop 
  (.seq (.region [o 11 (.bin .lss (.t 10) (.t 9))]) 
  (.seq (.cond (.t 11) .skip (.exit 0)) 
  (.seq (.block 1 
  (.seq (.region [m 12 10, m 4 12]) (.region [m 13 3, m 14 0, o 15 (.nilCheck (.t 14)), o 16 (.fieldAddr 6 none (.t 15)), o 17 (.load none (.t 16)), m 18 4, o 19 (.idxSl (some 8) (.t 17) (.t 18)), o 20 (.call (.fn 110) [(.t 19)]), o 21 (.buildSlice none 1 [(.m none)] [(0, (.t 20))]), o 22 (.append none 8 (.t 13) (.t 21)), m 3 22]))) (.region [o 23 (.bin .add (.t 10) (.c (.i .i64 1))), m 10 23]))))))) 
  (.seq (.region [m 24 0, m 25 3, o 26 (.call (.fn 152) [(.t 24), (.t 25)]), m 2 26]) .ret)))))⟩
def c111 : AFunc := ⟨1, 5, [(2, none)], (some (.seq (.region [o 2 (.mv (.c (.s [])))]) (.seq (.region [m 3 0, o 4 (.call (.fn 156) [(.t 3)]), m 2 4]) .ret)))⟩
def c112 : AFunc := ⟨2, 16, [], (some 
  (.seq (.region [o 5 (.load none (.t 1)), o 6 (.len 1 (.t 5)), o 7 (.mv (.c (.i .i64 0)))]) (.block 0 (.loop 
  (.seq (.region [o 8 (.bin .lss (.t 7) (.t 6))]) 
  (.seq (.cond (.t 8) .skip (.exit 0)) 
  (.seq (.block 1 
  (.seq (.region [o 9 (.idxSl none (.t 5) (.t 7)), o 10 (.load none (.t 9)), m 4 10]) 
  (.seq (.region [m 11 0, m 12 4, o 13 (.call (.val (.t 11)) [(.t 12)]), o 14 (.not (.t 13))]) (.cond (.t 14) .ret .skip)))) (.region [o 15 (.bin .add (.t 7) (.c (.i .i64 1))), m 7 15]))))))))⟩
def c113 : AFunc := ⟨1, 9, [(2, none)], (some 
  (.seq (.region [o 2 (.mv (.c .nilsl))]) 
  (.seq (.region [m 4 0, o 5 (.call (.fn 157) [(.t 4)]), m 3 5]) 
  (.seq (.region [m 6 3, o 7 (.call (.fn 158) [(.t 6)])]) 
  (.seq (.region [m 8 3, m 2 8]) .ret)))))⟩
def c114 : AFunc := ⟨1, 4, [(2, none)], (some (.seq (.region [o 1 (.box (.t 0)), o 2 (.mv (.c .nf))]) (.seq (.region [o 3 (.mkFunc (.func 159) [] [(.t 1)]), m 2 3]) .ret)))⟩
def c115 : AFunc := ⟨1, 4, [(2, none)], (some (.seq (.region [o 1 (.box (.t 0)), o 2 (.mv (.c .nf))]) (.seq (.region [o 3 (.mkFunc (.func 160) [] [(.t 1)]), m 2 3]) .ret)))⟩
def c116 : AFunc := ⟨4, 72, [(8, (some (some 4)))], (some 
  (.seq (.region [o 5 (.box (.t 1)), o 8 (.alloc (.ag [(.i .u8 0), (.s []), .nilsl, .nilsl]))]) 
  (.seq 
  (.seq (.region [o 13 (.fieldAddr 7 none (.t 5)), o 14 (.load none (.t 13)), m 15 2, o 16 (.idxSl none (.t 14) (.t 15)), o 17 (.load none (.t 16)), m 18 3, o 19 (.idxSl none (.t 17) (.t 18)), o 20 (.load none (.t 19)), m 9 20]) 
  (.seq (.region [o 21 (.fieldAddr 6 none (.t 5)), o 22 (.load none (.t 21)), m 23 2, o 24 (.idxSl (some 8) (.t 22) (.t 23)), o 25 (.load (some 8) (.t 24)), m 26 9, o 27 (.call (.fn 162) [(.t 25), (.t 26)])]) (.cond (.t 27) 
  (.seq (.region [m 28 0, o 29 (.nilCheck (.t 28)), o 30 (.fieldAddr 1 none (.t 29)), o 31 (.load none (.t 30)), m 32 9, o 33 (.lookup (.inl 0) (.t 31) (.t 32) (.ag [(.i .u8 0), (.s []), .nilsl, .nilsl]) false), u (.store (some 4) (.t 8) (.t 33))]) .ret) .skip))) 
  (.seq (.draw [m 34 0, o 35 (.nilCheck (.t 34)), o 36 (.fieldAddr 0 none (.t 35)), ⟨(some 37), .load none (.t 36), none, [16]⟩, o 38 (.fieldAddr 0 none (.t 5)), ⟨(some 39), .load none (.t 38), none, [16]⟩, ⟨(some 40), .lookup (.inl 1) (.t 37) (.t 39) (.ag [(.s []), .nilsl, (.i .u8 0), (.s []), .nilsl, .nilsl]) false, none, [16]⟩, o 41 (.field 1 none (.t 40)), m 42 2, o 43 (.idxSl (some 7) (.t 41) (.t 42)), o 44 (.fieldAddr 0 none (.t 43)), ⟨(some 45), .load none (.t 44), none, [16]⟩, m 46 3, o 47 (.idxSl (some 4) (.t 45) (.t 46)), ⟨(some 48), .load (some 4) (.t 47), none, [16]⟩, o 10 (.alloc (.ag [(.i .u8 0), (.s []), .nilsl, .nilsl])), u (.store (some 4) (.t 10) (.t 48))]) 
  (.seq (.draw [⟨(some 50), .load (some 4) (.t 10), none, [6, 7, 8]⟩, m 51 0, m 52 0, ⟨(some 53), .load (some 8) (.t 5), none, [6]⟩, ⟨(some 55), .load (some 4) (.t 10), none, [6, 7]⟩, o 11 (.alloc (.ag [(.i .u8 0), (.s []), .nilsl, .nilsl])), o 54 (.call (.fn 165) [(.t 52), (.t 53)]), o 56 (.call (.fn 164) [(.t 51), (.t 54), (.t 55)]), o 57 (.call (.fn 163) [(.t 50), (.t 56)]), m 49 57, o 58 (.extract (.t 49) 0), o 59 (.extract (.t 49) 1), u (.store (some 4) (.t 11) (.t 58)), m 12 59]) 
  (.seq (.region [m 60 0, m 61 0, o 62 (.nilCheck (.t 61)), o 63 (.fieldAddr 8 none (.t 62)), o 64 (.load none (.t 63)), m 65 64, ⟨(some 66), .mv (.t 12), (some (65, false)), []⟩, ⟨(some 67), .bin .neq (.t 66) (.c (.i .i64 0)), (some (65, false)), []⟩, o 68 (.pick (.t 65) (.c (.b true)) (.t 67)), o 69 (.nilCheck (.t 60)), o 70 (.fieldAddr 8 none (.t 69)), u (.store none (.t 70) (.t 68))]) 
  (.seq (.region [o 71 (.load (some 4) (.t 11)), u (.store (some 4) (.t 8) (.t 71))]) .ret)))))))⟩
def c118 : AFunc := ⟨1, 27, [(2, (some none)), (3, (some none)), (4, (some none))], (some 
  (.seq (.region [o 2 (.alloc .nilsl), o 3 (.alloc (.i .i64 0)), o 4 (.alloc (.i .i64 0))]) 
  (.seq 
  (.seq (.region [m 9 0, o 10 (.len 0 (.t 9)), o 11 (.bin .gtr (.t 10) (.c (.i .i64 16384)))]) (.cond (.t 11) 
  (.seq (.region [u (.store none (.t 2) (.c .nilsl)), u (.store none (.t 3) (.c (.i .i64 0))), u (.store none (.t 4) (.c (.i .i64 3)))]) .ret) .skip)) 
  (.seq (.region [o 5 (.alloc .nilsl)]) 
  (.seq (.region [m 12 0, o 13 (.build [(.i .i64 0), (.s [])] [(1, 1, (.t 12))]), o 6 (.alloc (.ag [(.i .i64 0), (.s [])])), u (.store (some 2) (.t 6) (.t 13))]) 
  (.seq 
  (.seq (.region [o 14 (.call (.fn 166) [(.t 6)])]) (.block 0 (.rangeFunc (.t 14) [15, 16] 
  (.seq (.region [o 7 (.alloc (.ag [(.i .u8 0), (.s []), (.i .i64 0)])), u (.store (some 3) (.t 7) (.t 15))]) (.region [m 8 16])) (.block 1 
  (.seq 
  (.seq (.region [m 17 8, o 18 (.bin .neq (.t 17) (.c (.i .i64 0)))]) (.cond (.t 18) 
  (.seq (.draw [o 19 (.fieldAddr 2 none (.t 7)), ⟨(some 20), .load none (.t 19), none, [4]⟩, m 21 8, u (.store none (.t 2) (.c .nilsl)), u (.store none (.t 3) (.t 20)), u (.store none (.t 4) (.t 21))]) .ret) .skip)) (.region [o 22 (.load none (.t 5)), o 23 (.load (some 3) (.t 7)), o 24 (.buildSlice (some 3) 1 [(.i .u8 0), (.s []), (.i .i64 0)] [(0, (.t 23))]), o 25 (.append (some 3) 32 (.t 22) (.t 24)), u (.store none (.t 5) (.t 25))])))))) 
  (.seq (.region [o 26 (.load none (.t 5)), u (.store none (.t 2) (.t 26)), u (.store none (.t 3) (.c (.i .i64 0))), u (.store none (.t 4) (.c (.i .i64 0)))]) .ret)))))))⟩
def c119 : AFunc := ⟨3, 17, [], (some 
  (.seq (.region [o 7 (.recover), o 8 (.assertC (.t 7) 229 (.ag [(.i .i64 0), (.i .i64 0)]) true), m 6 8, o 9 (.extract (.t 6) 0), o 10 (.extract (.t 6) 1), o 3 (.alloc (.ag [(.i .i64 0), (.i .i64 0)])), u (.store (some 2) (.t 3) (.t 9)), m 4 10]) 
  (.seq (.region [m 11 4]) (.cond (.t 11) 
  (.seq (.region [o 5 (.alloc (.ag [(.i .u8 0), (.s []), .nilsl, .nilsl]))]) (.draw [o 12 (.load (some 4) (.t 5)), o 13 (.fieldAddr 0 none (.t 3)), ⟨(some 14), .load none (.t 13), none, [6]⟩, o 15 (.fieldAddr 1 none (.t 3)), ⟨(some 16), .load none (.t 15), none, [6, 7]⟩, u (.store (some 4) (.t 0) (.t 12)), u (.store none (.t 1) (.t 14)), u (.store none (.t 2) (.t 16))])) .skip))))⟩
def c120 : AFunc := ⟨1, 13, [(2, (some (some 3)))], (some 
  (.seq (.region [o 2 (.alloc (.ag [(.i .u8 0), (.s []), (.i .i64 0)]))]) 
  (.seq (.draw [m 3 0, o 4 (.nilCheck (.t 3)), o 5 (.fieldAddr 0 none (.t 4)), o 6 (.load none (.t 5)), m 7 0, o 8 (.nilCheck (.t 7)), o 9 (.fieldAddr 1 none (.t 8)), o 10 (.load none (.t 9)), o 11 (.idxSl (some 3) (.t 6) (.t 10)), o 12 (.load (some 3) (.t 11)), u (.store (some 3) (.t 2) (.t 12))]) .ret)))⟩
def c122 : AFunc := ⟨2, 65, [(4, (some (some 4)))], (some 
  (.seq (.region [o 4 (.alloc (.ag [(.i .u8 0), (.s []), .nilsl, .nilsl]))]) 
  (.seq 
  (.seq (.region [m 9 1, o 10 (.bin .eql (.t 9) (.c (.i .i64 5)))]) (.cond (.t 10) 
  (.seq (.region [m 11 0, o 12 (.call (.fn 167) [(.t 11)]), u (.store (some 4) (.t 4) (.t 12))]) .ret) .skip)) 
  (.seq (.region [m 13 1, o 14 (.idxArr 5 (some 3) (.g 2) (.t 13)), o 15 (.load (some 3) (.t 14)), o 5 (.alloc (.ag [(.s []), (.i .u8 0), (.b false)])), u (.store (some 3) (.t 5) (.t 15))]) 
  (.seq (.region [m 16 0, m 17 1, o 18 (.bin .add (.t 17) (.c (.i .i64 1))), o 19 (.call (.fn 122) [(.t 16), (.t 18)]), o 6 (.alloc (.ag [(.i .u8 0), (.s []), .nilsl, .nilsl])), u (.store (some 4) (.t 6) (.t 19))]) 
  (.seq 
  (.seq (.region [o 20 (.fieldAddr 2 none (.t 5)), o 21 (.load none (.t 20))]) (.cond (.t 21) 
  (.seq 
  (.seq (.region [m 22 0, o 23 (.fieldAddr 0 none (.t 5)), o 24 (.load none (.t 23)), o 25 (.call (.fn 168) [(.t 22), (.t 24)])]) (.cond (.t 25) 
  (.seq (.region [m 26 0, o 27 (.nilCheck (.t 26)), o 28 (.fieldAddr 2 none (.t 27)), o 29 (.load none (.t 28)), o 30 (.bin .add (.t 29) (.c (.i .i64 1))), o 31 (.nilCheck (.t 26)), o 32 (.fieldAddr 2 none (.t 31)), u (.store none (.t 32) (.t 30))]) 
  (.seq (.region [m 33 0, m 34 1, o 35 (.call (.fn 122) [(.t 33), (.t 34)]), o 7 (.alloc (.ag [(.i .u8 0), (.s []), .nilsl, .nilsl])), u (.store (some 4) (.t 7) (.t 35))]) 
  (.seq (.region [m 36 0, o 37 (.nilCheck (.t 36)), o 38 (.fieldAddr 2 none (.t 37)), o 39 (.load none (.t 38)), o 40 (.bin .sub (.t 39) (.c (.i .i64 1))), o 41 (.nilCheck (.t 36)), o 42 (.fieldAddr 2 none (.t 41)), u (.store none (.t 42) (.t 40))]) (.region [o 43 (.fieldAddr 1 none (.t 5)), o 44 (.load none (.t 43)), o 45 (.load (some 4) (.t 6)), o 46 (.load (some 4) (.t 7)), o 47 (.buildSlice (some 4) 2 [(.i .u8 0), (.s []), .nilsl, .nilsl] [(0, (.t 45)), (1, (.t 46))]), o 48 (.build [(.i .u8 0), (.s []), .nilsl, .nilsl] [(0, 1, (.t 44)), (3, 1, (.t 47))]), u (.store (some 4) (.t 6) (.t 48))])))) .skip)) 
  (.seq (.region [o 49 (.load (some 4) (.t 6)), u (.store (some 4) (.t 4) (.t 49))]) .ret)) .skip)) 
  (.seq (.block 0 (.loop 
  (.seq 
  (.seq (.region [m 50 0, o 51 (.fieldAddr 0 none (.t 5)), o 52 (.load none (.t 51)), o 53 (.call (.fn 168) [(.t 50), (.t 52)])]) (.cond (.t 53) .skip (.exit 0))) (.block 1 
  (.seq (.region [m 54 0, m 55 1, o 56 (.bin .add (.t 55) (.c (.i .i64 1))), o 57 (.call (.fn 122) [(.t 54), (.t 56)]), o 8 (.alloc (.ag [(.i .u8 0), (.s []), .nilsl, .nilsl])), u (.store (some 4) (.t 8) (.t 57))]) (.region [o 58 (.fieldAddr 1 none (.t 5)), o 59 (.load none (.t 58)), o 60 (.load (some 4) (.t 6)), o 61 (.load (some 4) (.t 8)), o 62 (.buildSlice (some 4) 2 [(.i .u8 0), (.s []), .nilsl, .nilsl] [(0, (.t 60)), (1, (.t 61))]), o 63 (.build [(.i .u8 0), (.s []), .nilsl, .nilsl] [(0, 1, (.t 59)), (3, 1, (.t 62))]), u (.store (some 4) (.t 6) (.t 63))])))))) 
  (.seq (.region [o 64 (.load (some 4) (.t 6)), u (.store (some 4) (.t 4) (.t 64))]) .ret))))))))⟩
def c123 : AFunc := ⟨3, 90, [(6, none)], (some 
  (.seq (.region [o 4 (.box (.t 1)), o 6 (.mv (.c (.b false)))]) 
  (.seq 
  (.seq (.region [m 10 0, m 11 2, o 12 (.call (.fn 169) [(.t 10), (.t 11)]), o 13 (.not (.t 12)), m 14 13, ⟨(some 15), .fieldAddr 0 none (.t 4), (some (14, false)), []⟩, ⟨(some 16), .load none (.t 15), (some (14, false)), []⟩, ⟨(some 17), .conv .i64 (.t 16), (some (14, false)), []⟩, ⟨(some 18), .bin .geq (.t 17) (.c (.i .i64 17)), (some (14, false)), []⟩, o 19 (.pick (.t 14) (.c (.b true)) (.t 18))]) (.cond (.t 19) 
  (.seq (.region [o 6 (.mv (.c (.b false)))]) .ret) .skip)) 
  (.seq (.region [o 20 (.fieldAddr 0 none (.t 4)), o 21 (.load none (.t 20)), o 22 (.idxArr 17 (some 5) (.g 3) (.t 21)), o 23 (.load (some 5) (.t 22)), o 7 (.alloc (.ag [(.b false), (.b false), (.i .u8 0), (.i .i64 0), (.i .i64 0)])), u (.store (some 5) (.t 7) (.t 23))]) 
  (.seq 
  (.seq (.region [o 24 (.fieldAddr 0 none (.t 7)), o 25 (.load none (.t 24)), o 26 (.not (.t 25)), m 27 26, ⟨(some 28), .mv (.t 0), (some (27, true)), []⟩, ⟨(some 29), .nilCheck (.t 28), (some (27, true)), []⟩, ⟨(some 30), .fieldAddr 0 none (.t 29), (some (27, true)), []⟩, ⟨(some 31), .load none (.t 30), (some (27, true)), []⟩, ⟨(some 32), .mv (.t 31), (some (27, true)), []⟩, ⟨(some 33), .fieldAddr 1 none (.t 7), (some (32, true)), []⟩, ⟨(some 34), .load none (.t 33), (some (32, true)), []⟩, ⟨(some 35), .pick (.t 32) (.t 34) (.c (.b false)), (some (27, true)), []⟩, ⟨(some 36), .not (.t 35), (some (27, true)), []⟩, o 37 (.pick (.t 27) (.t 36) (.c (.b false)))]) (.cond (.t 37) 
  (.seq (.region [o 6 (.mv (.c (.b false)))]) .ret) .skip)) 
  (.seq 
  (.seq (.region [o 38 (.fieldAddr 2 none (.t 7)), o 39 (.load none (.t 38)), o 40 (.fieldAddr 1 none (.t 4)), o 41 (.load none (.t 40)), o 42 (.call (.fn 170) [(.t 39), (.t 41)]), o 43 (.not (.t 42)), m 44 43, ⟨(some 45), .fieldAddr 2 none (.t 4), (some (44, false)), []⟩, ⟨(some 46), .load none (.t 45), (some (44, false)), []⟩, ⟨(some 47), .len 1 (.t 46), (some (44, false)), []⟩, ⟨(some 48), .fieldAddr 3 none (.t 7), (some (44, false)), []⟩, ⟨(some 49), .load none (.t 48), (some (44, false)), []⟩, ⟨(some 50), .bin .gtr (.t 47) (.t 49), (some (44, false)), []⟩, o 51 (.pick (.t 44) (.c (.b true)) (.t 50)), m 52 51, ⟨(some 53), .fieldAddr 3 none (.t 4), (some (52, false)), []⟩, ⟨(some 54), .load none (.t 53), (some (52, false)), []⟩, ⟨(some 55), .len 1 (.t 54), (some (52, false)), []⟩, ⟨(some 56), .fieldAddr 4 none (.t 7), (some (52, false)), []⟩, ⟨(some 57), .load none (.t 56), (some (52, false)), []⟩, ⟨(some 58), .bin .neq (.t 55) (.t 57), (some (52, false)), []⟩, o 59 (.pick (.t 52) (.c (.b true)) (.t 58))]) (.cond (.t 59) 
  (.seq (.region [o 6 (.mv (.c (.b false)))]) .ret) .skip)) 
  (.seq 
  (.seq (.region [o 60 (.fieldAddr 0 none (.t 4)), o 61 (.load none (.t 60)), o 62 (.bin .eql (.t 61) (.c (.i .u8 16))), m 63 62, ⟨(some 64), .fieldAddr 2 none (.t 4), (some (63, true)), []⟩, ⟨(some 65), .load none (.t 64), (some (63, true)), []⟩, ⟨(some 66), .call (.fn 171) [(.t 65)], (some (63, true)), []⟩, ⟨(some 67), .not (.t 66), (some (63, true)), []⟩, o 68 (.pick (.t 63) (.t 67) (.c (.b false)))]) (.cond (.t 68) 
  (.seq (.region [o 6 (.mv (.c (.b false)))]) .ret) .skip)) 
  (.seq 
  (.seq (.region [m 69 0, o 70 (.fieldAddr 2 none (.t 4)), o 71 (.load none (.t 70)), m 72 2, o 73 (.bin .add (.t 72) (.c (.i .i64 1))), o 74 (.call (.fn 172) [(.t 69), (.t 71), (.t 73)]), o 75 (.not (.t 74))]) (.cond (.t 75) 
  (.seq (.region [o 6 (.mv (.c (.b false)))]) .ret) .skip)) 
  (.seq 
  (.seq (.region [o 76 (.fieldAddr 3 none (.t 4)), o 77 (.load none (.t 76)), o 78 (.len 1 (.t 77)), o 79 (.mv (.c (.i .i64 0)))]) (.block 0 (.loop 
  (.seq (.region [o 80 (.bin .lss (.t 79) (.t 78))]) 
  (.seq (.cond (.t 80) .skip (.exit 0)) 
  (.seq (.block 1 
  (.seq (.region [o 81 (.idxSl (some 4) (.t 77) (.t 79)), o 82 (.load (some 4) (.t 81)), o 9 (.alloc (.ag [(.i .u8 0), (.s []), .nilsl, .nilsl])), u (.store (some 4) (.t 9) (.t 82))]) 
  (.seq (.region [m 83 0, o 84 (.load (some 4) (.t 9)), m 85 2, o 86 (.bin .add (.t 85) (.c (.i .i64 1))), o 87 (.call (.fn 123) [(.t 83), (.t 84), (.t 86)]), o 88 (.not (.t 87))]) (.cond (.t 88) 
  (.seq (.region [o 6 (.mv (.c (.b false)))]) .ret) .skip)))) (.region [o 89 (.bin .add (.t 79) (.c (.i .i64 1))), m 79 89]))))))) 
  (.seq (.region [o 6 (.mv (.c (.b true)))]) .ret))))))))))⟩
def c128 : AFunc := ⟨2, 18, [(4, none)], (some 
  (.seq (.region [o 4 (.mv (.c (.b false)))]) 
  (.seq (.region [m 5 0, o 6 (.len 0 (.t 5)), m 7 1, o 8 (.len 0 (.t 7)), o 9 (.bin .geq (.t 6) (.t 8)), m 10 9, ⟨(some 11), .mv (.t 0), (some (10, true)), []⟩, ⟨(some 12), .mv (.t 1), (some (10, true)), []⟩, ⟨(some 13), .len 0 (.t 12), (some (10, true)), []⟩, ⟨(some 14), .sliceStr (.t 11) none (some (.t 13)), (some (10, true)), []⟩, ⟨(some 15), .mv (.t 1), (some (10, true)), []⟩, ⟨(some 16), .bin .eql (.t 14) (.t 15), (some (10, true)), []⟩, o 17 (.pick (.t 10) (.t 16) (.c (.b false))), m 4 17]) .ret)))⟩
def c129 : AFunc := ⟨2, 143, [(4, none)], (some 
  (.seq (.region [o 4 (.mv (.c (.i .i64 0)))]) 
  (.seq (.region [m 14 1, o 15 (.len 0 (.t 14)), m 5 15]) 
  (.seq (.block 0 
  (.seq (.region [m 17 5, o 18 (.bin .eql (.t 17) (.c (.i .i64 0))), m 19 18, ⟨(some 20), .mv (.t 1), (some (19, false)), []⟩, ⟨(some 21), .mv (.t 0), (some (19, false)), []⟩, ⟨(some 22), .bin .eql (.t 20) (.t 21), (some (19, false)), []⟩, o 23 (.pick (.t 19) (.c (.b true)) (.t 22)), m 16 23]) (.cond (.t 16) 
  (.seq (.region [o 4 (.mv (.c (.i .i64 0)))]) .ret) 
  (.seq (.region [m 25 5, o 26 (.bin .eql (.t 25) (.c (.i .i64 1))), m 24 26]) (.cond (.t 24) 
  (.seq (.region [m 27 0, m 28 1, o 29 (.indexStr (.t 28) (.c (.i .i64 0))), o 30 (.call (.fn 178) [(.t 27), (.t 29)]), m 4 30]) .ret) 
  (.seq (.region [m 32 5, m 33 0, o 34 (.len 0 (.t 33)), o 35 (.bin .geq (.t 32) (.t 34)), m 31 35]) (.cond (.t 31) 
  (.seq (.region [o 4 (.mv (.c (.i .i64 (-1))))]) .ret) 
  (.seq (.region [m 37 5, o 38 (.load none (.g 4)), o 39 (.bin .leq (.t 37) (.t 38)), m 40 39, ⟨(some 41), .mv (.t 0), (some (40, true)), []⟩, ⟨(some 42), .len 0 (.t 41), (some (40, true)), []⟩, ⟨(some 43), .bin .leq (.t 42) (.c (.i .i64 64)), (some (40, true)), []⟩, o 44 (.pick (.t 40) (.t 43) (.c (.b false))), m 36 44]) (.cond (.t 36) 
  (.seq (.region [m 45 0, m 46 1, o 47 (.call (.fn 179) [(.t 45), (.t 46)]), m 4 47]) .ret) .skip))))))))) 
  (.seq (.region [m 48 1, o 49 (.indexStr (.t 48) (.c (.i .i64 0))), m 6 49]) 
  (.seq (.region [m 50 1, o 51 (.indexStr (.t 50) (.c (.i .i64 1))), m 7 51]) 
  (.seq (.region [o 8 (.mv (.c (.i .i64 0)))]) 
  (.seq (.region [m 52 0, o 53 (.len 0 (.t 52)), m 54 5, o 55 (.bin .sub (.t 53) (.t 54)), o 56 (.bin .add (.t 55) (.c (.i .i64 1))), m 9 56]) 
  (.seq (.region [o 10 (.mv (.c (.i .i64 0)))]) 
  (.seq (.block 1 (.loop 
  (.seq 
  (.seq (.region [m 57 8, m 58 9, o 59 (.bin .lss (.t 57) (.t 58))]) (.cond (.t 59) .skip (.exit 1))) (.block 2 
  (.seq 
  (.seq (.region [m 60 0, m 61 8, o 62 (.indexStr (.t 60) (.t 61)), m 63 6, o 64 (.bin .neq (.t 62) (.t 63))]) (.cond (.t 64) 
  (.seq (.region [m 65 0, m 66 8, o 67 (.bin .add (.t 66) (.c (.i .i64 1))), m 68 9, o 69 (.sliceStr (.t 65) (some (.t 67)) (some (.t 68))), m 70 6, o 71 (.call (.fn 178) [(.t 69), (.t 70)]), m 11 71]) 
  (.seq 
  (.seq (.region [m 72 11, o 73 (.bin .lss (.t 72) (.c (.i .i64 0)))]) (.cond (.t 73) 
  (.seq (.region [o 4 (.mv (.c (.i .i64 (-1))))]) .ret) .skip)) (.region [m 74 8, m 75 11, o 76 (.bin .add (.t 75) (.c (.i .i64 1))), o 77 (.bin .add (.t 74) (.t 76)), m 8 77]))) .skip)) 
  (.seq 
  (.seq (.region [m 78 0, m 79 8, o 80 (.bin .add (.t 79) (.c (.i .i64 1))), o 81 (.indexStr (.t 78) (.t 80)), m 82 7, o 83 (.bin .eql (.t 81) (.t 82)), m 84 83, ⟨(some 85), .mv (.t 0), (some (84, true)), []⟩, ⟨(some 86), .mv (.t 8), (some (84, true)), []⟩, ⟨(some 87), .mv (.t 8), (some (84, true)), []⟩, ⟨(some 88), .mv (.t 5), (some (84, true)), []⟩, ⟨(some 89), .bin .add (.t 87) (.t 88), (some (84, true)), []⟩, ⟨(some 90), .sliceStr (.t 85) (some (.t 86)) (some (.t 89)), (some (84, true)), []⟩, ⟨(some 91), .mv (.t 1), (some (84, true)), []⟩, ⟨(some 92), .bin .eql (.t 90) (.t 91), (some (84, true)), []⟩, o 93 (.pick (.t 84) (.t 92) (.c (.b false)))]) (.cond (.t 93) 
  (.seq (.region [m 94 8, m 4 94]) .ret) .skip)) 
  (.seq (.region [m 95 8, o 96 (.bin .add (.t 95) (.c (.i .i64 1))), m 8 96]) 
  (.seq (.region [m 97 10, o 98 (.bin .add (.t 97) (.c (.i .i64 1))), m 10 98]) 
  (.seq (.region [m 99 5, o 100 (.load none (.g 4)), o 101 (.bin .leq (.t 99) (.t 100)), m 102 101, ⟨(some 103), .mv (.t 10), (some (102, true)), []⟩, ⟨(some 104), .mv (.t 8), (some (102, true)), []⟩, ⟨(some 105), .call (.fn 180) [(.t 104)], (some (102, true)), []⟩, ⟨(some 106), .bin .gtr (.t 103) (.t 105), (some (102, true)), []⟩, o 107 (.pick (.t 102) (.t 106) (.c (.b false)))]) (.cond (.t 107) 
  (.seq (.region [m 108 0, m 109 8, o 110 (.sliceStr (.t 108) (some (.t 109)) none), m 111 1, o 112 (.call (.fn 179) [(.t 110), (.t 111)]), m 12 112]) 
  (.seq 
  (.seq (.region [m 113 12, o 114 (.bin .geq (.t 113) (.c (.i .i64 0)))]) (.cond (.t 114) 
  (.seq (.region [m 115 12, m 116 8, o 117 (.bin .add (.t 115) (.t 116)), m 4 117]) .ret) .skip)) 
  (.seq (.region [o 4 (.mv (.c (.i .i64 (-1))))]) .ret))) 
  (.seq (.region [m 118 5, o 119 (.load none (.g 4)), o 120 (.bin .gtr (.t 118) (.t 119)), m 121 120, ⟨(some 122), .mv (.t 10), (some (121, true)), []⟩, ⟨(some 123), .mv (.t 8), (some (121, true)), []⟩, ⟨(some 124), .bin .shr (.t 123) (.c (.i .u64 4)), (some (121, true)), []⟩, ⟨(some 125), .bin .add (.c (.i .i64 4)) (.t 124), (some (121, true)), []⟩, ⟨(some 126), .bin .geq (.t 122) (.t 125), (some (121, true)), []⟩, o 127 (.pick (.t 121) (.t 126) (.c (.b false))), m 128 127, ⟨(some 129), .mv (.t 8), (some (128, true)), []⟩, ⟨(some 130), .mv (.t 9), (some (128, true)), []⟩, ⟨(some 131), .bin .lss (.t 129) (.t 130), (some (128, true)), []⟩, o 132 (.pick (.t 128) (.t 131) (.c (.b false)))]) (.cond (.t 132) 
  (.seq (.region [m 133 0, m 134 8, o 135 (.sliceStr (.t 133) (some (.t 134)) none), m 136 1, o 137 (.call (.fn 181) [(.t 135), (.t 136)]), m 13 137]) 
  (.seq 
  (.seq (.region [m 138 13, o 139 (.bin .lss (.t 138) (.c (.i .i64 0)))]) (.cond (.t 139) 
  (.seq (.region [o 4 (.mv (.c (.i .i64 (-1))))]) .ret) .skip)) 
  (.seq (.region [m 140 8, m 141 13, o 142 (.bin .add (.t 140) (.t 141)), m 4 142]) .ret))) .skip)))))))))))) 
  (.seq (.region [o 4 (.mv (.c (.i .i64 (-1))))]) .ret)))))))))))⟩
def c130 : AFunc := ⟨4, 52, [], (some 
  (.seq 
  (.seq (.region [o 9 (.load none (.t 1)), o 10 (.len 0 (.t 9)), o 11 (.bin .eql (.t 10) (.c (.i .i64 0)))]) (.cond (.t 11) 
  (.seq (.block 0 (.loop 
  (.seq 
  (.seq (.region [o 12 (.load none (.t 2)), o 13 (.len 0 (.t 12)), o 14 (.bin .gtr (.t 13) (.c (.i .i64 0)))]) (.cond (.t 14) .skip (.exit 0))) (.block 1 
  (.seq (.region [o 16 (.load none (.t 2)), o 17 (.call (.fn 127) [(.t 16)]), m 15 17, o 18 (.extract (.t 15) 0), o 19 (.extract (.t 15) 1), m 5 18, m 6 19]) 
  (.seq 
  (.seq (.region [m 20 0, o 21 (.load none (.t 2)), m 22 6, o 23 (.sliceStr (.t 21) none (some (.t 22))), o 24 (.call (.val (.t 20)) [(.t 23)]), o 25 (.not (.t 24))]) (.cond (.t 25) .ret .skip)) (.region [o 26 (.load none (.t 2)), m 27 6, o 28 (.sliceStr (.t 26) (some (.t 27)) none), u (.store none (.t 2) (.t 28))]))))))) .ret) .skip)) 
  (.seq (.block 2 (.loop (.block 3 
  (.seq (.region [o 29 (.load none (.t 2)), o 30 (.load none (.t 1)), o 31 (.call (.fn 131) [(.t 29), (.t 30)]), m 7 31]) 
  (.seq 
  (.seq (.region [m 32 7, o 33 (.bin .lss (.t 32) (.c (.i .i64 0)))]) (.cond (.t 33) (.exit 2) .skip)) 
  (.seq (.region [o 34 (.load none (.t 2)), m 35 7, o 36 (.load none (.t 3)), o 37 (.bin .add (.t 35) (.t 36)), o 38 (.sliceStr (.t 34) none (some (.t 37))), m 8 38]) 
  (.seq 
  (.seq (.region [m 39 0, m 40 8, o 41 (.call (.val (.t 39)) [(.t 40)]), o 42 (.not (.t 41))]) (.cond (.t 42) .ret .skip)) (.region [o 43 (.load none (.t 2)), m 44 7, o 45 (.load none (.t 1)), o 46 (.len 0 (.t 45)), o 47 (.bin .add (.t 44) (.t 46)), o 48 (.sliceStr (.t 43) (some (.t 47)) none), u (.store none (.t 2) (.t 48))])))))))) (.region [m 49 0, o 50 (.load none (.t 2)), o 51 (.call (.val (.t 49)) [(.t 50)])]))))⟩
def c131 : AFunc := ⟨2, 8, [(4, none)], (some (.seq (.region [o 4 (.mv (.c (.i .i64 0)))]) (.seq (.region [m 5 0, m 6 1, o 7 (.call (.fn 129) [(.t 5), (.t 6)]), m 4 7]) .ret)))⟩
def c132 : AFunc := ⟨2, 22, [], (some 
  (.seq 
  (.seq (.region [m 5 0, o 6 (.fieldAddr 1 (some 4) (.t 1)), o 7 (.load (some 4) (.t 6)), o 8 (.call (.val (.t 5)) [(.t 7)]), o 9 (.not (.t 8))]) (.cond (.t 9) .ret .skip)) 
  (.seq (.region [o 10 (.fieldAddr 0 none (.t 1)), o 11 (.load none (.t 10)), o 12 (.len 1 (.t 11)), o 13 (.mv (.c (.i .i64 0)))]) (.block 0 (.loop 
  (.seq (.region [o 14 (.bin .lss (.t 13) (.t 12))]) 
  (.seq (.cond (.t 14) .skip (.exit 0)) 
  (.seq (.block 1 
  (.seq (.region [o 15 (.idxSl (some 4) (.t 11) (.t 13)), o 16 (.load (some 4) (.t 15)), o 4 (.alloc (.ag [(.i .u8 0), (.s []), .nilsl, .nilsl])), u (.store (some 4) (.t 4) (.t 16))]) 
  (.seq (.region [m 17 0, o 18 (.load (some 4) (.t 4)), o 19 (.call (.val (.t 17)) [(.t 18)]), o 20 (.not (.t 19))]) (.cond (.t 20) .ret .skip)))) (.region [o 21 (.bin .add (.t 13) (.c (.i .i64 1))), m 13 21])))))))))⟩
def c134 : AFunc := ⟨1, 11, [(2, none)], (some 
  (.seq (.region [o 1 (.box (.t 0)), o 2 (.mv (.c .nilsl))]) 
  (.seq (.region [o 4 (.mkMap), m 3 4]) 
  (.seq (.region [o 5 (.load (some 4) (.t 1)), m 6 3, o 7 (.call (.fn 184) [(.t 5), (.t 6)])]) 
  (.seq (.region [m 8 3, o 9 (.call (.fn 114) [(.t 8)]), o 10 (.call (.fn 113) [(.t 9)]), m 2 10]) .ret)))))⟩
def c135 : AFunc := ⟨1, 6, [(2, none)], (some 
  (.seq (.region [o 2 (.mv (.c (.b false)))]) 
  (.seq (.region [o 3 (.call (.fn 185) [(.c (.f (.func 186) [] [])), (.c (.f (.func 187) [] []))]), m 4 0, o 5 (.call (.val (.t 3)) [(.t 4)]), m 2 5]) .ret)))⟩
def c136 : AFunc := ⟨1, 4, [(2, none)], (some (.seq (.region [o 1 (.box (.t 0)), o 2 (.mv (.c .nf))]) (.seq (.region [o 3 (.mkFunc (.func 188) [] [(.t 1)]), m 2 3]) .ret)))⟩
def c137 : AFunc := ⟨4, 31, [(8, none)], (some 
  (.seq (.region [o 8 (.mv (.c (.b false)))]) 
  (.seq (.region [m 10 0, o 11 (.nilCheck (.t 10)), o 12 (.fieldAddr 1 none (.t 11)), o 13 (.load none (.t 12)), m 14 1, o 15 (.bin .sub (.t 14) (.c (.i .i64 1))), o 16 (.idxSl none (.t 13) (.t 15)), o 17 (.load none (.t 16)), m 9 17]) 
  (.seq (.region [m 18 9, o 19 (.len 1 (.t 18)), m 20 2, o 21 (.bin .geq (.t 19) (.t 20)), m 22 21, ⟨(some 23), .mv (.t 9), (some (22, true)), []⟩, ⟨(some 24), .mv (.t 2), (some (22, true)), []⟩, ⟨(some 25), .bin .sub (.t 24) (.c (.i .i64 1)), (some (22, true)), []⟩, ⟨(some 26), .idxSl none (.t 23) (.t 25), (some (22, true)), []⟩, ⟨(some 27), .load none (.t 26), (some (22, true)), []⟩, ⟨(some 28), .mv (.t 3), (some (22, true)), []⟩, ⟨(some 29), .bin .eql (.t 27) (.t 28), (some (22, true)), []⟩, o 30 (.pick (.t 22) (.t 29) (.c (.b false))), m 8 30]) .ret))))⟩
def c138 : AFunc := ⟨2, 26, [(4, none)], (some 
  (.seq (.region [o 4 (.mv (.c (.b false)))]) 
  (.seq 
  (.seq (.region [m 6 0, o 7 (.len 1 (.t 6)), m 8 1, o 9 (.len 1 (.t 8)), o 10 (.bin .neq (.t 7) (.t 9))]) (.cond (.t 10) 
  (.seq (.region [o 4 (.mv (.c (.b false)))]) .ret) .skip)) 
  (.seq 
  (.seq (.region [m 11 0, o 12 (.len 1 (.t 11)), o 13 (.mv (.c (.i .i64 0)))]) (.block 0 (.loop 
  (.seq (.region [o 14 (.bin .lss (.t 13) (.t 12))]) 
  (.seq (.cond (.t 14) .skip (.exit 0)) 
  (.seq (.block 1 
  (.seq (.region [m 15 13, m 5 15]) 
  (.seq (.draw [m 16 0, m 17 5, o 18 (.idxSl none (.t 16) (.t 17)), o 19 (.load none (.t 18)), m 20 1, m 21 5, o 22 (.idxSl none (.t 20) (.t 21)), o 23 (.load none (.t 22)), o 24 (.bin .neq (.t 19) (.t 23))]) (.cond (.t 24) 
  (.seq (.region [o 4 (.mv (.c (.b false)))]) .ret) .skip)))) (.region [o 25 (.bin .add (.t 13) (.c (.i .i64 1))), m 13 25]))))))) 
  (.seq (.region [o 4 (.mv (.c (.b true)))]) .ret)))))⟩
def c139 : AFunc := ⟨3, 52, [(6, none)], (some 
  (.seq (.region [o 6 (.mv (.c .nilsl))]) 
  (.seq (.region [o 7 (.mv (.c .nilsl))]) 
  (.seq 
  (.seq (.region [m 10 1, m 8 10]) (.block 0 (.loop 
  (.seq 
  (.seq (.region [m 11 8, m 12 0, o 13 (.nilCheck (.t 12)), o 14 (.fieldAddr 0 none (.t 13)), o 15 (.load none (.t 14)), o 16 (.len 1 (.t 15)), o 17 (.bin .leq (.t 11) (.t 16))]) (.cond (.t 17) .skip (.exit 0))) 
  (.seq (.block 1 
  (.seq (.region [m 20 0, o 21 (.nilCheck (.t 20)), o 22 (.fieldAddr 0 none (.t 21)), o 23 (.load none (.t 22)), m 24 8, o 25 (.bin .sub (.t 24) (.c (.i .i64 1))), o 26 (.idxSl (some 9) (.t 23) (.t 25)), o 27 (.load (some 9) (.t 26)), o 9 (.alloc (.ag [(.i .i64 0), (.i .i64 0), (.b false), (.i .u8 0), (.s []), .nilsl, .nilsl, (.s []), .nilsl])), u (.store (some 9) (.t 9) (.t 27))]) 
  (.seq 
  (.seq (.region [o 28 (.fieldAddr 2 none (.t 9)), o 29 (.load none (.t 28)), o 30 (.not (.t 29)), m 31 30, ⟨(some 32), .fieldAddr 0 none (.t 9), (some (31, false)), []⟩, ⟨(some 33), .load none (.t 32), (some (31, false)), []⟩, ⟨(some 34), .mv (.t 2), (some (31, false)), []⟩, ⟨(some 35), .bin .neq (.t 33) (.t 34), (some (31, false)), []⟩, o 36 (.pick (.t 31) (.c (.b true)) (.t 35)), m 37 36, ⟨(some 38), .mv (.t 8), (some (37, false)), []⟩, ⟨(some 39), .mv (.t 1), (some (37, false)), []⟩, ⟨(some 40), .bin .gtr (.t 38) (.t 39), (some (37, false)), []⟩, ⟨(some 41), .mv (.t 40), (some (37, false)), []⟩, ⟨(some 42), .fieldAddr 1 none (.t 9), (some (41, true)), []⟩, ⟨(some 43), .load none (.t 42), (some (41, true)), []⟩, ⟨(some 44), .bin .gtr (.t 43) (.c (.i .i64 0)), (some (41, true)), []⟩, ⟨(some 45), .pick (.t 41) (.t 44) (.c (.b false)), (some (37, false)), []⟩, o 46 (.pick (.t 37) (.c (.b true)) (.t 45))]) (.cond (.t 46) (.exit 0) .skip)) (.region [m 47 7, m 48 8, o 49 (.buildSlice none 1 [(.i .i64 0)] [(0, (.t 48))]), o 50 (.append none 8 (.t 47) (.t 49)), m 7 50])))) (.region [m 18 8, o 19 (.bin .add (.t 18) (.c (.i .i64 1))), m 8 19])))))) 
  (.seq (.region [m 51 7, m 6 51]) .ret)))))⟩
def c140 : AFunc := ⟨2, 9, [(4, none)], (some (.seq (.region [o 4 (.mv (.c (.b false)))]) (.seq (.region [m 5 0, m 6 1, o 7 (.call (.fn 190) [(.t 5), (.t 6)]), o 8 (.bin .geq (.t 7) (.c (.i .i64 0))), m 4 8]) .ret)))⟩
def c141 : AFunc := ⟨2, 37, [(4, none)], (some 
  (.seq (.region [o 3 (.box (.t 1)), o 4 (.mv (.c (.b false)))]) 
  (.seq (.region [o 5 (.mv (.c (.i .i64 0))), o 6 (.mv (.c (.i .i64 0)))]) 
  (.seq 
  (.seq (.region [m 11 0, o 12 (.bin .eql (.t 11) (.c (.i .u8 2)))]) (.cond (.t 12) (.region [o 5 (.mv (.c (.i .i64 2))), o 6 (.mv (.c (.i .i64 1)))]) .skip)) 
  (.seq 
  (.seq (.region [o 13 (.load (some 4) (.t 3)), o 14 (.call (.fn 191) [(.t 13)]), o 15 (.len 1 (.t 14)), o 16 (.mv (.c (.i .i64 0)))]) (.block 0 (.loop 
  (.seq (.region [o 17 (.bin .lss (.t 16) (.t 15))]) 
  (.seq (.cond (.t 17) .skip (.exit 0)) 
  (.seq (.block 1 
  (.seq (.region [o 18 (.idxSl (some 2) (.t 14) (.t 16)), o 19 (.load (some 2) (.t 18)), o 8 (.alloc (.ag [(.s []), (.i .i64 0)])), u (.store (some 2) (.t 8) (.t 19))]) 
  (.seq (.region [o 20 (.fieldAddr 1 none (.t 8)), o 21 (.load none (.t 20)), m 22 5, o 23 (.bin .gtr (.t 21) (.t 22))]) (.cond (.t 23) 
  (.seq (.region [o 4 (.mv (.c (.b false)))]) .ret) .skip)))) (.region [o 24 (.bin .add (.t 16) (.c (.i .i64 1))), m 16 24]))))))) 
  (.seq 
  (.seq (.region [o 25 (.load (some 4) (.t 3)), o 26 (.call (.fn 192) [(.t 25)]), o 27 (.len 1 (.t 26)), o 28 (.mv (.c (.i .i64 0)))]) (.block 2 (.loop 
  (.seq (.region [o 29 (.bin .lss (.t 28) (.t 27))]) 
  (.seq (.cond (.t 29) .skip (.exit 2)) 
  (.seq (.block 3 
  (.seq (.region [o 30 (.idxSl (some 2) (.t 26) (.t 28)), o 31 (.load (some 2) (.t 30)), o 10 (.alloc (.ag [(.s []), (.i .i64 0)])), u (.store (some 2) (.t 10) (.t 31))]) 
  (.seq (.region [o 32 (.fieldAddr 1 none (.t 10)), o 33 (.load none (.t 32)), m 34 6, o 35 (.bin .gtr (.t 33) (.t 34))]) (.cond (.t 35) 
  (.seq (.region [o 4 (.mv (.c (.b false)))]) .ret) .skip)))) (.region [o 36 (.bin .add (.t 28) (.c (.i .i64 1))), m 28 36]))))))) 
  (.seq (.region [o 4 (.mv (.c (.b true)))]) .ret)))))))⟩
def c142 : AFunc := ⟨3, 74, [(4, (some (some 6))), (5, none)], (some 
  (.seq (.region [o 3 (.box (.t 0)), o 4 (.alloc (.ag [(.i .u8 0), (.s []), .nilsl, .nilsl, .nilsl, .nilsl])), o 5 (.mv (.c (.b false)))]) 
  (.seq (.draw [o 7 (.load none (.t 1)), o 8 (.nilCheck (.t 7)), o 9 (.fieldAddr 1 none (.t 8)), o 10 (.load none (.t 9)), o 11 (.fieldAddr 1 none (.t 3)), o 12 (.load none (.t 11)), o 13 (.bin .sub (.t 12) (.c (.i .i64 1))), o 14 (.idxSl none (.t 10) (.t 13)), o 15 (.load none (.t 14)), m 6 15]) 
  (.seq 
  (.seq (.draw [o 16 (.fieldAddr 0 none (.t 3)), o 17 (.load none (.t 16)), o 18 (.fieldAddr 1 none (.t 3)), o 19 (.load none (.t 18)), o 20 (.bin .neq (.t 17) (.t 19)), m 21 20, ⟨(some 22), .mv (.t 6), (some (21, false)), []⟩, ⟨(some 23), .len 1 (.t 22), (some (21, false)), []⟩, ⟨(some 24), .load none (.t 1), (some (21, false)), []⟩, ⟨(some 25), .nilCheck (.t 24), (some (21, false)), []⟩, ⟨(some 26), .fieldAddr 1 none (.t 25), (some (21, false)), []⟩, ⟨(some 27), .load none (.t 26), (some (21, false)), []⟩, ⟨(some 28), .load none (.t 2), (some (21, false)), []⟩, ⟨(some 29), .bin .sub (.t 28) (.c (.i .i64 1)), (some (21, false)), []⟩, ⟨(some 30), .idxSl none (.t 27) (.t 29), (some (21, false)), []⟩, ⟨(some 31), .load none (.t 30), (some (21, false)), []⟩, ⟨(some 32), .len 1 (.t 31), (some (21, false)), []⟩, ⟨(some 33), .bin .gtr (.t 23) (.t 32), (some (21, false)), []⟩, o 34 (.pick (.t 21) (.c (.b true)) (.t 33)), m 35 34, ⟨(some 36), .mv (.t 6), (some (35, false)), []⟩, ⟨(some 37), .load none (.t 1), (some (35, false)), []⟩, ⟨(some 38), .nilCheck (.t 37), (some (35, false)), []⟩, ⟨(some 39), .fieldAddr 1 none (.t 38), (some (35, false)), []⟩, ⟨(some 40), .load none (.t 39), (some (35, false)), []⟩, ⟨(some 41), .load none (.t 2), (some (35, false)), []⟩, ⟨(some 42), .bin .sub (.t 41) (.c (.i .i64 1)), (some (35, false)), []⟩, ⟨(some 43), .idxSl none (.t 40) (.t 42), (some (35, false)), []⟩, ⟨(some 44), .load none (.t 43), (some (35, false)), []⟩, ⟨(some 45), .mv (.t 6), (some (35, false)), []⟩, ⟨(some 46), .len 1 (.t 45), (some (35, false)), []⟩, ⟨(some 47), .sliceSl none (.t 44) none (some (.t 46)) none, (some (35, false)), []⟩, ⟨(some 48), .call (.fn 138) [(.t 36), (.t 47)], (some (35, false)), []⟩, ⟨(some 49), .not (.t 48), (some (35, false)), []⟩, o 50 (.pick (.t 35) (.c (.b true)) (.t 49))]) (.cond (.t 50) 
  (.seq (.region [o 51 (.build [(.i .u8 0), (.s []), .nilsl, .nilsl, .nilsl, .nilsl] []), u (.store (some 6) (.t 4) (.t 51)), o 5 (.mv (.c (.b false)))]) .ret) .skip)) 
  (.seq (.draw [⟨(some 52), .load none (.t 1), none, [22]⟩, o 53 (.nilCheck (.t 52)), o 54 (.fieldAddr 0 none (.t 53)), ⟨(some 55), .load none (.t 54), none, [22]⟩, o 56 (.fieldAddr 1 none (.t 3)), ⟨(some 57), .load none (.t 56), none, [22]⟩, o 58 (.bin .sub (.t 57) (.c (.i .i64 1))), o 59 (.idxSl (some 9) (.t 55) (.t 58)), o 60 (.fieldAddr 3 (some 4) (.t 59)), ⟨(some 61), .load (some 4) (.t 60), none, [22]⟩, o 62 (.load none (.t 1)), o 63 (.load none (.t 1)), o 64 (.nilCheck (.t 63)), o 65 (.fieldAddr 2 none (.t 64)), o 66 (.load none (.t 65)), o 67 (.fieldAddr 1 none (.t 3)), o 68 (.load none (.t 67)), o 69 (.bin .sub (.t 68) (.c (.i .i64 1))), o 70 (.idxSl none (.t 66) (.t 69)), o 71 (.load none (.t 70)), o 72 (.call (.fn 143) [(.t 62), (.t 71)]), o 73 (.build [(.i .u8 0), (.s []), .nilsl, .nilsl, .nilsl, .nilsl] [(0, 4, (.t 61)), (5, 1, (.t 72))]), u (.store (some 6) (.t 4) (.t 73)), o 5 (.mv (.c (.b true)))]) .ret)))))⟩
def c143 : AFunc := ⟨2, 28, [(4, none)], (some 
  (.seq (.region [o 4 (.mv (.c .nilsl))]) 
  (.seq (.region [o 5 (.mv (.c .nilsl))]) 
  (.seq 
  (.seq (.region [m 8 1, o 9 (.len 1 (.t 8)), o 10 (.mv (.c (.i .i64 0)))]) (.block 0 (.loop 
  (.seq (.region [o 11 (.bin .lss (.t 10) (.t 9))]) 
  (.seq (.cond (.t 11) .skip (.exit 0)) 
  (.seq (.block 1 
  (.seq (.region [o 12 (.idxSl none (.t 8) (.t 10)), o 13 (.load none (.t 12)), m 7 13]) (.region [m 14 5, m 15 0, o 16 (.nilCheck (.t 15)), o 17 (.fieldAddr 0 none (.t 16)), o 18 (.load none (.t 17)), m 19 7, o 20 (.bin .sub (.t 19) (.c (.i .i64 1))), o 21 (.idxSl (some 9) (.t 18) (.t 20)), o 22 (.fieldAddr 3 (some 4) (.t 21)), o 23 (.load (some 4) (.t 22)), o 24 (.buildSlice (some 4) 1 [(.i .u8 0), (.s []), .nilsl, .nilsl] [(0, (.t 23))]), o 25 (.append (some 4) 72 (.t 14) (.t 24)), m 5 25]))) (.region [o 26 (.bin .add (.t 10) (.c (.i .i64 1))), m 10 26]))))))) 
  (.seq (.region [m 27 5, m 4 27]) .ret)))))⟩
def c144 : AFunc := ⟨3, 62, [(4, (some (some 6))), (5, none)], (some 
  (.seq (.region [o 3 (.box (.t 0)), o 4 (.alloc (.ag [(.i .u8 0), (.s []), .nilsl, .nilsl, .nilsl, .nilsl])), o 5 (.mv (.c (.b false)))]) 
  (.seq 
  (.seq (.region [o 9 (.load none (.t 1)), o 10 (.load none (.t 2)), o 11 (.load (some 2) (.t 3)), o 12 (.call (.fn 96) [(.t 9), (.t 10), (.t 11)]), o 13 (.not (.t 12))]) (.cond (.t 13) 
  (.seq (.region [o 14 (.build [(.i .u8 0), (.s []), .nilsl, .nilsl, .nilsl, .nilsl] []), u (.store (some 6) (.t 4) (.t 14)), o 5 (.mv (.c (.b false)))]) .ret) .skip)) 
  (.seq (.draw [⟨(some 15), .load none (.t 1), none, [15, 16, 18]⟩, o 16 (.nilCheck (.t 15)), o 17 (.fieldAddr 0 none (.t 16)), ⟨(some 18), .load none (.t 17), none, [15, 16, 18]⟩, o 19 (.fieldAddr 1 none (.t 3)), ⟨(some 20), .load none (.t 19), none, [15, 16, 18]⟩, o 21 (.bin .sub (.t 20) (.c (.i .i64 1))), o 22 (.idxSl (some 9) (.t 18) (.t 21)), o 23 (.fieldAddr 3 (some 4) (.t 22)), ⟨(some 24), .load (some 4) (.t 23), none, [15, 16, 18]⟩, ⟨(some 25), .load none (.t 1), none, [15, 16]⟩, ⟨(some 26), .load none (.t 1), none, [15]⟩, ⟨(some 27), .load none (.t 2), none, [15]⟩, ⟨(some 28), .load (some 2) (.t 3), none, [15]⟩, o 6 (.alloc (.ag [(.i .u8 0), (.s []), .nilsl, .nilsl, .nilsl, .nilsl])), o 29 (.call (.fn 97) [(.t 26), (.t 27), (.t 28)]), o 30 (.call (.fn 143) [(.t 25), (.t 29)]), o 31 (.build [(.i .u8 0), (.s []), .nilsl, .nilsl, .nilsl, .nilsl] [(0, 4, (.t 24)), (5, 1, (.t 30))]), u (.store (some 6) (.t 6) (.t 31))]) 
  (.seq 
  (.seq (.draw [⟨(some 32), .load none (.t 1), none, [16]⟩, o 33 (.load none (.t 1)), o 34 (.fieldAddr 0 none (.t 3)), o 35 (.load none (.t 34)), o 36 (.load none (.t 1)), o 37 (.nilCheck (.t 36)), o 38 (.fieldAddr 0 none (.t 37)), o 39 (.load none (.t 38)), o 40 (.load none (.t 2)), o 41 (.bin .sub (.t 40) (.c (.i .i64 1))), o 42 (.idxSl (some 9) (.t 39) (.t 41)), o 43 (.fieldAddr 0 none (.t 42)), o 44 (.load none (.t 43)), o 45 (.bin .add (.t 44) (.c (.i .i64 1))), o 49 (.mv (.c (.i .i64 0))), o 46 (.call (.fn 139) [(.t 33), (.t 35), (.t 45)]), o 47 (.call (.fn 143) [(.t 32), (.t 46)]), o 48 (.len 1 (.t 47))]) (.block 0 (.loop 
  (.seq (.region [o 50 (.bin .lss (.t 49) (.t 48))]) 
  (.seq (.cond (.t 50) .skip (.exit 0)) 
  (.seq (.block 1 
  (.seq (.region [o 51 (.idxSl (some 4) (.t 47) (.t 49)), o 52 (.load (some 4) (.t 51)), o 8 (.alloc (.ag [(.i .u8 0), (.s []), .nilsl, .nilsl])), u (.store (some 4) (.t 8) (.t 52))]) (.region [o 53 (.fieldAddr 4 none (.t 6)), o 54 (.load none (.t 53)), o 55 (.load (some 4) (.t 8)), o 56 (.build [(.b false), (.i .u8 0), (.s []), .nilsl, .nilsl] [(0, 1, (.c (.b true))), (1, 4, (.t 55))]), o 57 (.buildSlice (some 5) 1 [(.b false), (.i .u8 0), (.s []), .nilsl, .nilsl] [(0, (.t 56))]), o 58 (.append (some 5) 80 (.t 54) (.t 57)), o 59 (.fieldAddr 4 none (.t 6)), u (.store none (.t 59) (.t 58))]))) (.region [o 60 (.bin .add (.t 49) (.c (.i .i64 1))), m 49 60]))))))) 
  (.seq (.region [o 61 (.load (some 6) (.t 6)), u (.store (some 6) (.t 4) (.t 61)), o 5 (.mv (.c (.b true)))]) .ret))))))⟩
def c145 : AFunc := ⟨1, 11, [(2, none)], (some 
  (.seq (.region [o 1 (.box (.t 0)), o 2 (.mv (.c (.b false)))]) 
  (.seq (.region [o 3 (.fieldAddr 0 none (.t 1)), o 4 (.load none (.t 3)), o 5 (.bin .eql (.t 4) (.c (.i .u8 8))), m 6 5, ⟨(some 7), .fieldAddr 0 none (.t 1), (some (6, false)), []⟩, ⟨(some 8), .load none (.t 7), (some (6, false)), []⟩, ⟨(some 9), .bin .eql (.t 8) (.c (.i .u8 9)), (some (6, false)), []⟩, o 10 (.pick (.t 6) (.c (.b true)) (.t 9)), m 2 10]) .ret)))⟩
def c147 : AFunc := ⟨3, 55, [], (some 
  (.seq 
  (.seq (.region [m 10 0, o 11 (.load (some 4) (.t 1)), o 12 (.call (.val (.t 10)) [(.t 11)]), o 13 (.not (.t 12))]) (.cond (.t 13) .ret .skip)) 
  (.seq (.region [o 14 (.load none (.t 2)), o 15 (.len 1 (.t 14)), o 16 (.mv (.c (.i .i64 0)))]) (.block 0 (.loop 
  (.seq (.region [o 17 (.bin .lss (.t 16) (.t 15))]) 
  (.seq (.cond (.t 17) .skip (.exit 0)) 
  (.seq (.block 1 
  (.seq (.region [o 18 (.idxSl (some 6) (.t 14) (.t 16)), o 19 (.load (some 6) (.t 18)), o 5 (.alloc (.ag [(.i .u8 0), (.s []), .nilsl, .nilsl, .nilsl, .nilsl])), u (.store (some 6) (.t 5) (.t 19))]) 
  (.seq 
  (.seq (.region [m 20 0, o 21 (.fieldAddr 0 (some 4) (.t 5)), o 22 (.load (some 4) (.t 21)), o 23 (.call (.val (.t 20)) [(.t 22)]), o 24 (.not (.t 23))]) (.cond (.t 24) .ret .skip)) 
  (.seq 
  (.seq (.region [o 25 (.fieldAddr 4 none (.t 5)), o 26 (.load none (.t 25)), o 27 (.len 1 (.t 26)), o 28 (.mv (.c (.i .i64 0)))]) (.block 2 (.loop 
  (.seq (.region [o 29 (.bin .lss (.t 28) (.t 27))]) 
  (.seq (.cond (.t 29) .skip (.exit 2)) 
  (.seq (.block 3 
  (.seq (.region [o 30 (.idxSl (some 5) (.t 26) (.t 28)), o 31 (.load (some 5) (.t 30)), o 7 (.alloc (.ag [(.b false), (.i .u8 0), (.s []), .nilsl, .nilsl])), u (.store (some 5) (.t 7) (.t 31))]) 
  (.seq (.region [o 32 (.fieldAddr 0 none (.t 7)), o 33 (.load none (.t 32)), m 34 33, ⟨(some 35), .mv (.t 0), (some (34, true)), []⟩, ⟨(some 36), .fieldAddr 1 (some 4) (.t 7), (some (34, true)), []⟩, ⟨(some 37), .load (some 4) (.t 36), (some (34, true)), []⟩, ⟨(some 38), .call (.val (.t 35)) [(.t 37)], (some (34, true)), []⟩, ⟨(some 39), .not (.t 38), (some (34, true)), []⟩, o 40 (.pick (.t 34) (.t 39) (.c (.b false)))]) (.cond (.t 40) .ret .skip)))) (.region [o 41 (.bin .add (.t 28) (.c (.i .i64 1))), m 28 41]))))))) 
  (.seq (.region [o 42 (.fieldAddr 5 none (.t 5)), o 43 (.load none (.t 42)), o 44 (.len 1 (.t 43)), o 45 (.mv (.c (.i .i64 0)))]) (.block 4 (.loop 
  (.seq (.region [o 46 (.bin .lss (.t 45) (.t 44))]) 
  (.seq (.cond (.t 46) .skip (.exit 4)) 
  (.seq (.block 5 
  (.seq (.region [o 47 (.idxSl (some 4) (.t 43) (.t 45)), o 48 (.load (some 4) (.t 47)), o 9 (.alloc (.ag [(.i .u8 0), (.s []), .nilsl, .nilsl])), u (.store (some 4) (.t 9) (.t 48))]) 
  (.seq (.region [m 49 0, o 50 (.load (some 4) (.t 9)), o 51 (.call (.val (.t 49)) [(.t 50)]), o 52 (.not (.t 51))]) (.cond (.t 52) .ret .skip)))) (.region [o 53 (.bin .add (.t 45) (.c (.i .i64 1))), m 45 53]))))))))))) (.region [o 54 (.bin .add (.t 16) (.c (.i .i64 1))), m 16 54])))))))))⟩
def c148 : AFunc := ⟨6, 22, [], (some 
  (.seq (.region [o 6 (.box (.t 0)), o 7 (.box (.t 1))]) 
  (.seq (.region [o 10 (.load none (.t 4)), o 11 (.load (some 4) (.t 6)), o 12 (.load (some 4) (.t 7)), o 13 (.build [(.i .u8 0), (.s []), .nilsl, .nilsl, (.i .u8 0), (.s []), .nilsl, .nilsl] [(0, 4, (.t 11)), (4, 4, (.t 12))]), o 14 (.buildSlice (some 8) 1 [(.i .u8 0), (.s []), .nilsl, .nilsl, (.i .u8 0), (.s []), .nilsl, .nilsl] [(0, (.t 13))]), o 15 (.append (some 8) 144 (.t 10) (.t 14)), u (.store none (.t 4) (.t 15))]) (.region [o 16 (.load none (.t 5)), m 17 2, m 18 3, o 19 (.build [(.i .u8 0), (.i .i64 0), (.i .i64 0)] [(0, 1, (.c (.i .u8 2))), (1, 1, (.t 17)), (2, 1, (.t 18))]), o 20 (.buildSlice (some 3) 1 [(.i .u8 0), (.i .i64 0), (.i .i64 0)] [(0, (.t 19))]), o 21 (.append (some 3) 24 (.t 16) (.t 20)), u (.store none (.t 5) (.t 21))]))))⟩
def c149 : AFunc := ⟨2, 79, [(4, (some (some 2))), (5, none), (6, none)], (some 
  (.seq (.region [o 3 (.box (.t 1)), o 4 (.alloc (.ag [.nilsl, .nilsl])), o 5 (.mv (.c (.i .i64 0))), o 6 (.mv (.c (.i .i64 0)))]) (.scope 
  (.seq 
  (.seq (.region [o 17 (.load (some 2) (.t 3)), o 18 (.call (.fn 193) [(.t 17)]), o 19 (.not (.t 18))]) (.cond (.t 19) 
  (.seq (.region [o 20 (.build [.nilsl, .nilsl] []), u (.store (some 2) (.t 4) (.t 20)), o 5 (.mv (.c (.i .i64 0))), o 6 (.mv (.c (.i .i64 2)))]) .ret) .skip)) 
  (.seq 
  (.seq (.region [m 21 0, o 22 (.len 1 (.t 21)), o 23 (.mv (.c (.i .i64 0)))]) (.block 0 (.loop 
  (.seq (.region [o 24 (.bin .lss (.t 23) (.t 22))]) 
  (.seq (.cond (.t 24) .skip (.exit 0)) 
  (.seq (.block 1 
  (.seq (.region [m 25 23, o 26 (.idxSl (some 8) (.t 21) (.t 23)), o 27 (.load (some 8) (.t 26)), o 8 (.alloc (.ag [(.i .u8 0), (.s []), .nilsl, .nilsl, (.i .u8 0), (.s []), .nilsl, .nilsl])), m 7 25, u (.store (some 8) (.t 8) (.t 27))]) 
  (.seq (.region [o 28 (.fieldAddr 0 (some 4) (.t 8)), o 29 (.load (some 4) (.t 28)), o 30 (.call (.fn 82) [(.t 29)]), o 31 (.not (.t 30)), m 32 31, ⟨(some 33), .fieldAddr 4 (some 4) (.t 8), (some (32, false)), []⟩, ⟨(some 34), .load (some 4) (.t 33), (some (32, false)), []⟩, ⟨(some 35), .call (.fn 100) [(.t 34)], (some (32, false)), []⟩, ⟨(some 36), .not (.t 35), (some (32, false)), []⟩, o 37 (.pick (.t 32) (.c (.b true)) (.t 36))]) (.cond (.t 37) 
  (.seq (.region [o 38 (.build [.nilsl, .nilsl] []), m 39 7, u (.store (some 2) (.t 4) (.t 38)), m 5 39, o 6 (.mv (.c (.i .i64 2)))]) .ret) .skip)))) (.region [o 40 (.bin .add (.t 23) (.c (.i .i64 1))), m 23 40]))))))) 
  (.seq (.region [o 41 (.load (some 2) (.t 3)), o 42 (.call (.fn 194) [(.t 41)]), m 9 42]) 
  (.seq (.region [o 10 (.alloc (.i .i64 0)), o 11 (.alloc (.i .i64 0)), u (.store none (.t 10) (.c (.i .i64 0))), u (.store none (.t 11) (.c (.i .i64 0)))]) 
  (.seq .skip 
  (.seq 
  (.seq (.region [m 43 9, o 44 (.mkFunc (.func 195) [(.t 43)] []), m 45 9, o 46 (.mkFunc (.func 196) [(.t 45)] []), o 47 (.build [.nf, .nf] [(0, 1, (.t 44)), (1, 1, (.t 46))]), o 48 (.mv (.c (.i .i64 0)))]) (.block 2 (.loop 
  (.seq (.region [o 49 (.bin .lss (.t 48) (.c (.i .i64 2)))]) 
  (.seq (.cond (.t 49) .skip (.exit 2)) 
  (.seq (.block 3 
  (.seq (.region [o 50 (.indexAgg 2 none (.t 47) (.t 48)), o 13 (.alloc .nf), u (.store none (.t 13) (.t 50))]) 
  (.seq (.region [m 51 0, o 52 (.len 1 (.t 51)), o 53 (.mv (.c (.i .i64 0)))]) (.block 4 (.loop 
  (.seq (.region [o 54 (.bin .lss (.t 53) (.t 52))]) 
  (.seq (.cond (.t 54) .skip (.exit 4)) 
  (.seq (.block 5 
  (.seq (.region [m 55 53, o 56 (.idxSl (some 8) (.t 51) (.t 53)), o 57 (.load (some 8) (.t 56)), o 14 (.alloc (.i .i64 0)), o 15 (.alloc (.ag [(.i .u8 0), (.s []), .nilsl, .nilsl, (.i .u8 0), (.s []), .nilsl, .nilsl])), u (.store none (.t 14) (.t 55)), u (.store (some 8) (.t 15) (.t 57))]) 
  (.seq (.region [o 58 (.fieldAddr 0 (some 4) (.t 15)), o 59 (.load (some 4) (.t 58)), o 60 (.fieldAddr 4 (some 4) (.t 15)), o 61 (.load (some 4) (.t 60)), o 62 (.call (.fn 197) [(.t 59), (.t 61)])]) (.block 6 (.rangeFunc (.t 62) [63] (.region [o 16 (.alloc (.ag [(.i .u8 0), (.s []), .nilsl, .nilsl, (.i .u8 0), (.s []), .nilsl, .nilsl, .nilsl])), u (.store (some 9) (.t 16) (.t 63))]) (.block 7 
  (.seq (.region [o 64 (.load none (.t 13)), o 65 (.load (some 9) (.t 16)), o 66 (.call (.val (.t 64)) [(.t 65)]), u (.store none (.t 11) (.t 66))]) 
  (.seq (.region [o 67 (.load none (.t 11)), o 68 (.bin .neq (.t 67) (.c (.i .i64 0)))]) (.cond (.t 68) 
  (.seq (.region [o 69 (.load none (.t 14)), u (.store none (.t 10) (.t 69))]) (.exit 2)) .skip))))))))) (.region [o 70 (.bin .add (.t 53) (.c (.i .i64 1))), m 53 70]))))))))) (.region [o 71 (.bin .add (.t 48) (.c (.i .i64 1))), m 48 71]))))))) 
  (.seq 
  (.seq (.region [o 72 (.load none (.t 11)), o 73 (.bin .neq (.t 72) (.c (.i .i64 0)))]) (.cond (.t 73) 
  (.seq (.draw [o 74 (.build [.nilsl, .nilsl] []), ⟨(some 75), .load none (.t 10), none, [6]⟩, ⟨(some 76), .load none (.t 11), none, [6]⟩, u (.store (some 2) (.t 4) (.t 74)), m 5 75, m 6 76]) .ret) .skip)) 
  (.seq (.region [m 77 9, o 78 (.call (.fn 198) [(.t 77)]), u (.store (some 2) (.t 4) (.t 78)), o 5 (.mv (.c (.i .i64 0))), o 6 (.mv (.c (.i .i64 0)))]) .ret)))))))))))⟩
def c150 : AFunc := ⟨2, 54, [(4, none)], (some 
  (.seq (.region [o 2 (.box (.t 0)), o 4 (.mv (.c .nilsl))]) 
  (.seq (.region [o 5 (.alloc .nilsl)]) 
  (.seq (.region [o 11 (.mkFunc (.func 199) [] [(.t 5)]), m 6 11]) 
  (.seq (.draw [⟨(some 12), .load none (.t 2), none, [17]⟩, o 13 (.nilCheck (.t 12)), o 14 (.fieldAddr 0 (some 6) (.t 13)), o 15 (.fieldAddr 1 none (.t 14)), ⟨(some 16), .load none (.t 15), none, [17]⟩, m 17 1, o 18 (.idxSl (some 7) (.t 16) (.t 17)), ⟨(some 19), .load (some 7) (.t 18), none, [17]⟩, ⟨(some 20), .load none (.t 2), none, [17, 18]⟩, o 21 (.nilCheck (.t 20)), o 22 (.fieldAddr 10 none (.t 21)), ⟨(some 23), .load none (.t 22), none, [17, 18]⟩, m 24 1, o 25 (.idxSl (some 6) (.t 23) (.t 24)), ⟨(some 26), .load (some 6) (.t 25), none, [17, 18]⟩, o 7 (.alloc (.ag [.nilsl, (.i .u8 0), (.s []), .nilsl, .nilsl, (.s []), (.b false)])), o 8 (.alloc (.ag [(.i .u8 0), (.s []), .nilsl, .nilsl, .nilsl, .nilsl])), u (.store (some 7) (.t 7) (.t 19)), u (.store (some 6) (.t 8) (.t 26))]) 
  (.seq 
  (.seq (.draw [⟨(some 28), .load none (.t 2), none, [7]⟩, o 29 (.nilCheck (.t 28)), o 30 (.fieldAddr 11 (some 2) (.t 29)), ⟨(some 31), .load (some 2) (.t 30), none, [7]⟩, o 32 (.fieldAddr 5 none (.t 7)), ⟨(some 33), .load none (.t 32), none, [7]⟩, o 9 (.alloc (.ag [(.b false), (.s []), .nilsl])), o 34 (.call (.fn 201) [(.t 31), (.t 33)]), m 27 34, o 35 (.extract (.t 27) 0), o 36 (.extract (.t 27) 1), u (.store (some 3) (.t 9) (.t 35)), m 10 36]) 
  (.seq (.region [m 37 10]) (.cond (.t 37) 
  (.seq (.region [m 38 6, o 39 (.mkFunc (.func 202) [] [(.t 9)]), o 40 (.call (.val (.t 38)) [(.c (.i .u8 3)), (.t 39)])]) 
  (.seq (.region [m 41 6, o 42 (.mkFunc (.func 204) [] [(.t 9), (.t 2)]), o 43 (.call (.val (.t 41)) [(.c (.i .u8 4)), (.t 42)])]) 
  (.seq (.region [m 44 6, o 45 (.mkFunc (.func 206) [] [(.t 8), (.t 9)]), o 46 (.call (.val (.t 44)) [(.c (.i .u8 5)), (.t 45)])]) (.region [m 47 6, o 48 (.mkFunc (.func 209) [] [(.t 2), (.t 9)]), o 49 (.call (.val (.t 47)) [(.c (.i .u8 6)), (.t 48)])])))) .skip))) 
  (.seq (.region [m 50 6, o 51 (.mkFunc (.func 212) [] [(.t 7), (.t 8)]), o 52 (.call (.val (.t 50)) [(.c (.i .u8 7)), (.t 51)])]) 
  (.seq (.region [o 53 (.load none (.t 5)), m 4 53]) .ret))))))))⟩
def c151 : AFunc := ⟨3, 66, [(6, none), (7, (some (some 3)))], (some 
  (.seq (.region [o 3 (.box (.t 0)), o 4 (.box (.t 1)), o 5 (.box (.t 2)), o 6 (.mv (.c (.i .u8 0))), o 7 (.alloc (.ag [(.i .u8 0), (.i .i64 0), (.i .i64 0)]))]) 
  (.seq (.region [o 15 (.load none (.t 4)), o 16 (.nilCheck (.t 15)), o 17 (.fieldAddr 0 none (.t 16)), o 18 (.load none (.t 17)), o 19 (.bin .neq (.t 18) (.c (.s []))), m 20 19, ⟨(some 21), .load none (.t 4), (some (20, true)), []⟩, ⟨(some 22), .nilCheck (.t 21), (some (20, true)), []⟩, ⟨(some 23), .fieldAddr 0 none (.t 22), (some (20, true)), []⟩, ⟨(some 24), .load none (.t 23), (some (20, true)), []⟩, ⟨(some 25), .bin .neq (.t 24) (.c (.s [63])), (some (20, true)), []⟩, o 26 (.pick (.t 20) (.t 25) (.c (.b false))), o 8 (.alloc (.b false)), u (.store none (.t 8) (.t 26))]) 
  (.seq (.draw [⟨(some 28), .load none (.t 3), none, [14]⟩, o 29 (.nilCheck (.t 28)), o 30 (.fieldAddr 5 none (.t 29)), ⟨(some 31), .load none (.t 30), none, [14]⟩, ⟨(some 32), .load none (.t 4), none, [14]⟩, o 33 (.nilCheck (.t 32)), o 34 (.fieldAddr 0 none (.t 33)), ⟨(some 35), .load none (.t 34), none, [14]⟩, ⟨(some 36), .lookup (.inl 1) (.t 31) (.t 35) (.ag [(.s []), .nilsl, (.i .u8 0), (.s []), .nilsl, .nilsl]) true, none, [14]⟩, m 27 36, o 37 (.extract (.t 27) 0), o 38 (.extract (.t 27) 1), o 9 (.alloc (.ag [(.s []), .nilsl, (.i .u8 0), (.s []), .nilsl, .nilsl])), o 10 (.alloc (.b false)), u (.store (some 6) (.t 9) (.t 37)), u (.store none (.t 10) (.t 38))]) 
  (.seq (.region [o 11 (.alloc (.ag [(.i .u8 0), (.i .i64 0), (.i .i64 0)]))]) 
  (.seq (.region [o 39 (.mkFunc (.func 213) [] [(.t 4)]), o 40 (.build [(.i .u8 0), .nf] [(0, 1, (.c (.i .u8 2))), (1, 1, (.t 39))]), o 41 (.mkFunc (.func 215) [] [(.t 3), (.t 4)]), o 42 (.build [(.i .u8 0), .nf] [(0, 1, (.c (.i .u8 3))), (1, 1, (.t 41))]), o 43 (.mkFunc (.func 216) [] [(.t 4), (.t 3)]), o 44 (.build [(.i .u8 0), .nf] [(0, 1, (.c (.i .u8 4))), (1, 1, (.t 43))]), o 45 (.mkFunc (.func 217) [] [(.t 4)]), o 46 (.build [(.i .u8 0), .nf] [(0, 1, (.c (.i .u8 5))), (1, 1, (.t 45))]), o 47 (.mkFunc (.func 218) [] [(.t 8), (.t 10)]), o 48 (.build [(.i .u8 0), .nf] [(0, 1, (.c (.i .u8 6))), (1, 1, (.t 47))]), o 49 (.mkFunc (.func 219) [] [(.t 8), (.t 9), (.t 4), (.t 3), (.t 5), (.t 11)]), o 50 (.build [(.i .u8 0), .nf] [(0, 1, (.c (.i .u8 7))), (1, 1, (.t 49))]), o 51 (.buildSlice (some 2) 6 [(.i .u8 0), .nf] [(0, (.t 40)), (1, (.t 42)), (2, (.t 44)), (3, (.t 46)), (4, (.t 48)), (5, (.t 50))]), m 12 51]) 
  (.seq 
  (.seq (.region [m 52 12, o 53 (.len 1 (.t 52)), o 54 (.mv (.c (.i .i64 0)))]) (.block 0 (.loop 
  (.seq (.region [o 55 (.bin .lss (.t 54) (.t 53))]) 
  (.seq (.cond (.t 55) .skip (.exit 0)) 
  (.seq (.block 1 
  (.seq (.region [o 56 (.idxSl (some 2) (.t 52) (.t 54)), o 57 (.load (some 2) (.t 56)), o 14 (.alloc (.ag [(.i .u8 0), .nf])), u (.store (some 2) (.t 14) (.t 57))]) 
  (.seq (.region [o 58 (.fieldAddr 1 none (.t 14)), o 59 (.load none (.t 58)), o 60 (.call (.val (.t 59)) [])]) (.cond (.t 60) 
  (.seq (.draw [o 61 (.fieldAddr 0 none (.t 14)), o 62 (.load none (.t 61)), o 63 (.load (some 3) (.t 11)), m 6 62, u (.store (some 3) (.t 7) (.t 63))]) .ret) .skip)))) (.region [o 64 (.bin .add (.t 54) (.c (.i .i64 1))), m 54 64]))))))) 
  (.seq (.draw [o 65 (.load (some 3) (.t 11)), o 6 (.mv (.c (.i .u8 0))), u (.store (some 3) (.t 7) (.t 65))]) .ret))))))))⟩
def c152 : AFunc := ⟨2, 43, [(4, none)], (some 
  (.seq (.region [o 4 (.mv (.c (.m none)))]) 
  (.seq (.region [o 9 (.mkMap), m 5 9]) 
  (.seq 
  (.seq (.region [m 10 0, o 11 (.nilCheck (.t 10)), o 12 (.fieldAddr 0 none (.t 11)), o 13 (.load none (.t 12)), o 14 (.bin .eql (.t 13) (.c (.s [])))]) (.cond (.t 14) (.region [m 15 5, m 16 0, o 17 (.nilCheck (.t 16)), o 18 (.fieldAddr 5 none (.t 17)), o 19 (.load none (.t 18)), u (.mapUpd (.inl 0) (.t 15) (.t 19) (.c (.b true)))]) .skip)) 
  (.seq 
  (.seq (.region [m 20 1, o 21 (.len 1 (.t 20)), o 22 (.mv (.c (.i .i64 0)))]) (.block 0 (.loop 
  (.seq (.region [o 23 (.bin .lss (.t 22) (.t 21))]) 
  (.seq (.cond (.t 23) .skip (.exit 0)) 
  (.seq (.block 1 
  (.seq (.region [m 24 22, o 25 (.idxSl none (.t 20) (.t 22)), o 26 (.load none (.t 25)), m 6 24, m 7 26]) 
  (.seq (.region [m 27 7, o 28 (.rangeMap (.t 27))]) (.block 2 (.loop 
  (.seq (.region [o 29 (.nextMap (.t 28)), o 30 (.extract (.t 29) 0)]) 
  (.seq (.cond (.t 30) .skip (.exit 2)) (.block 3 
  (.seq (.region [o 31 (.entry (.t 28)), o 32 (.extract (.t 31) 0), m 8 32]) 
  (.seq (.region [m 33 0, m 34 6, o 35 (.call (.fn 221) [(.t 33), (.t 34)]), m 36 8, o 37 (.call (.fn 140) [(.t 35), (.t 36)]), o 38 (.not (.t 37))]) (.cond (.t 38) (.region [m 39 5, m 40 8, u (.mapUpd (.inl 0) (.t 39) (.t 40) (.c (.b true)))]) .skip))))))))))) (.region [o 41 (.bin .add (.t 22) (.c (.i .i64 1))), m 22 41]))))))) 
  (.seq (.region [m 42 5, m 4 42]) .ret))))))⟩
def c153 : AFunc := ⟨1, 5, [(2, none)], (some (.seq (.region [o 2 (.mv (.c .nilsl))]) (.seq (.region [m 3 0, o 4 (.call (.fn 222) [(.c .nilsl), (.t 3)]), m 2 4]) .ret)))⟩
def c154 : AFunc := ⟨1, 11, [], (some 
  (.seq (.region [m 3 0, o 4 (.len 1 (.t 3)), m 2 4]) (.region [m 5 0, m 6 2, m 7 2, o 8 (.conv .u64 (.t 7)), o 9 (.call (.fn 224) [(.t 8)]), o 10 (.call (.fn 223) [(.t 5), (.c (.i .i64 0)), (.t 6), (.t 9)])])))⟩
def c155 : AFunc := ⟨2, 14, [], (some 
  (.seq (.region [o 4 (.load none (.t 1)), o 5 (.rangeMap (.t 4))]) (.block 0 (.loop 
  (.seq (.region [o 6 (.nextMap (.t 5)), o 7 (.extract (.t 6) 0)]) 
  (.seq (.cond (.t 7) .skip (.exit 0)) (.block 1 
  (.seq (.region [o 8 (.entry (.t 5)), o 9 (.extract (.t 8) 0), m 3 9]) 
  (.seq (.region [m 10 0, m 11 3, o 12 (.call (.val (.t 10)) [(.t 11)]), o 13 (.not (.t 12))]) (.cond (.t 13) .ret .skip))))))))))⟩
def c156 : AFunc := ⟨1, 5, [(2, none)], (some (.seq (.region [o 2 (.mv (.c (.s [])))]) (.seq (.region [m 3 0, o 4 (.call (.fn 225) [(.t 3), (.c (.i .i64 10))]), m 2 4]) .ret)))⟩
def c157 : AFunc := ⟨1, 5, [(2, none)], (some (.seq (.region [o 2 (.mv (.c .nilsl))]) (.seq (.region [m 3 0, o 4 (.call (.fn 226) [(.c .nilsl), (.t 3)]), m 2 4]) .ret)))⟩
def c158 : AFunc := ⟨1, 11, [], (some 
  (.seq (.region [m 3 0, o 4 (.len 1 (.t 3)), m 2 4]) (.region [m 5 0, m 6 2, m 7 2, o 8 (.conv .u64 (.t 7)), o 9 (.call (.fn 224) [(.t 8)]), o 10 (.call (.fn 227) [(.t 5), (.c (.i .i64 0)), (.t 6), (.t 9)])])))⟩
def c159 : AFunc := ⟨2, 14, [], (some 
  (.seq (.region [o 4 (.load none (.t 1)), o 5 (.rangeMap (.t 4))]) (.block 0 (.loop 
  (.seq (.region [o 6 (.nextMap (.t 5)), o 7 (.extract (.t 6) 0)]) 
  (.seq (.cond (.t 7) .skip (.exit 0)) (.block 1 
  (.seq (.region [o 8 (.entry (.t 5)), o 9 (.extract (.t 8) 0), m 3 9]) 
  (.seq (.region [m 10 0, m 11 3, o 12 (.call (.val (.t 10)) [(.t 11)]), o 13 (.not (.t 12))]) (.cond (.t 13) .ret .skip))))))))))⟩
def c160 : AFunc := ⟨2, 7, [], (some (.region [o 3 (.load (some 4) (.t 1)), o 4 (.mkMap), m 5 0, o 6 (.call (.fn 161) [(.t 3), (.t 4), (.t 5)])]))⟩
def c161 : AFunc := ⟨3, 46, [(6, none)], (some 
  (.seq (.region [o 3 (.box (.t 0)), o 4 (.box (.t 1)), o 5 (.box (.t 2)), o 6 (.mv (.c (.b false)))]) 
  (.seq (.region [o 12 (.mkFunc (.func 228) [] [(.t 4), (.t 5)]), m 7 12]) 
  (.seq 
  (.seq (.region [o 13 (.fieldAddr 2 none (.t 3)), o 14 (.load none (.t 13)), o 15 (.len 1 (.t 14)), o 16 (.mv (.c (.i .i64 0)))]) (.block 0 (.loop 
  (.seq (.region [o 17 (.bin .lss (.t 16) (.t 15))]) 
  (.seq (.cond (.t 17) .skip (.exit 0)) 
  (.seq (.block 1 
  (.seq (.region [o 18 (.idxSl (some 3) (.t 14) (.t 16)), o 19 (.load (some 3) (.t 18)), o 9 (.alloc (.ag [(.b false), (.s []), .nilsl])), u (.store (some 3) (.t 9) (.t 19))]) 
  (.seq (.region [o 20 (.load (some 3) (.t 9)), m 21 7, o 22 (.call (.fn 229) [(.t 20), (.t 21)]), o 23 (.not (.t 22))]) (.cond (.t 23) 
  (.seq (.region [o 6 (.mv (.c (.b false)))]) .ret) .skip)))) (.region [o 24 (.bin .add (.t 16) (.c (.i .i64 1))), m 16 24]))))))) 
  (.seq 
  (.seq (.region [o 25 (.load (some 4) (.t 3)), o 26 (.call (.fn 145) [(.t 25)])]) (.cond (.t 26) 
  (.seq (.region [o 27 (.load none (.t 4)), o 28 (.fieldAddr 1 none (.t 3)), o 29 (.load none (.t 28)), o 30 (.lookup (.inl 1) (.t 27) (.t 29) (.i .i64 0) false), o 31 (.bin .add (.t 30) (.c (.i .i64 1))), u (.mapUpd (.inl 1) (.t 27) (.t 29) (.t 31))]) (.region [o 32 (.mkFunc (.func 230) [] [(.t 4), (.t 3)]), u (.dfr (.val (.t 32)) [])])) .skip)) 
  (.seq 
  (.seq (.region [o 33 (.fieldAddr 3 none (.t 3)), o 34 (.load none (.t 33)), o 35 (.len 1 (.t 34)), o 36 (.mv (.c (.i .i64 0)))]) (.block 2 (.loop 
  (.seq (.region [o 37 (.bin .lss (.t 36) (.t 35))]) 
  (.seq (.cond (.t 37) .skip (.exit 2)) 
  (.seq (.block 3 
  (.seq (.region [o 38 (.idxSl (some 4) (.t 34) (.t 36)), o 39 (.load (some 4) (.t 38)), o 11 (.alloc (.ag [(.i .u8 0), (.s []), .nilsl, .nilsl])), u (.store (some 4) (.t 11) (.t 39))]) 
  (.seq (.region [o 40 (.load (some 4) (.t 11)), o 41 (.load none (.t 4)), o 42 (.load none (.t 5)), o 43 (.call (.fn 161) [(.t 40), (.t 41), (.t 42)]), o 44 (.not (.t 43))]) (.cond (.t 44) 
  (.seq (.region [o 6 (.mv (.c (.b false)))]) .ret) .skip)))) (.region [o 45 (.bin .add (.t 36) (.c (.i .i64 1))), m 36 45]))))))) 
  (.seq (.region [o 6 (.mv (.c (.b true)))]) .ret)))))))⟩
def c162 : AFunc := ⟨2, 19, [(4, none)], (some 
  (.seq (.region [o 2 (.box (.t 0)), o 3 (.box (.t 1)), o 4 (.mv (.c (.b false)))]) 
  (.seq (.region [o 8 (.load (some 8) (.t 2)), o 9 (.call (.fn 72) [(.t 8)]), m 7 9, o 10 (.extract (.t 7) 0), o 11 (.extract (.t 7) 1), m 5 10, m 6 11]) 
  (.seq (.region [o 12 (.load none (.t 3)), o 13 (.bin .neq (.t 12) (.c (.i .i64 0))), m 14 13, ⟨(some 15), .mv (.t 5), (some (14, true)), []⟩, ⟨(some 16), .mkFunc (.func 232) [] [(.t 3)], (some (14, true)), []⟩, ⟨(some 17), .call (.fn 231) [(.t 15), (.t 16)], (some (14, true)), []⟩, o 18 (.pick (.t 14) (.t 17) (.c (.b false))), m 4 18]) .ret))))⟩
def c163 : AFunc := ⟨2, 35, [(4, (some (some 4))), (5, none)], (some 
  (.seq (.region [o 2 (.box (.t 0)), o 3 (.box (.t 1)), o 4 (.alloc (.ag [(.i .u8 0), (.s []), .nilsl, .nilsl])), o 5 (.mv (.c (.i .i64 0)))]) 
  (.seq 
  (.seq (.region [o 9 (.load (some 4) (.t 2)), o 10 (.call (.fn 82) [(.t 9)]), o 11 (.not (.t 10)), m 12 11, ⟨(some 13), .load (some 2) (.t 3), (some (12, false)), []⟩, ⟨(some 14), .call (.fn 193) [(.t 13)], (some (12, false)), []⟩, ⟨(some 15), .not (.t 14), (some (12, false)), []⟩, o 16 (.pick (.t 12) (.c (.b true)) (.t 15))]) (.cond (.t 16) 
  (.seq (.region [o 17 (.build [(.i .u8 0), (.s []), .nilsl, .nilsl] []), u (.store (some 4) (.t 4) (.t 17)), o 5 (.mv (.c (.i .i64 2)))]) .ret) .skip)) 
  (.seq (.region [o 18 (.load (some 2) (.t 3)), o 19 (.call (.fn 194) [(.t 18)]), m 6 19]) 
  (.seq 
  (.seq (.region [m 20 6, o 21 (.load (some 4) (.t 2)), o 22 (.call (.fn 233) [(.t 20), (.t 21)]), m 7 22]) 
  (.seq (.region [m 23 7, o 24 (.bin .neq (.t 23) (.c (.i .i64 0)))]) (.cond (.t 24) 
  (.seq (.region [o 25 (.build [(.i .u8 0), (.s []), .nilsl, .nilsl] []), m 26 7, u (.store (some 4) (.t 4) (.t 25)), m 5 26]) .ret) .skip))) 
  (.seq (.region [m 27 6, o 28 (.load (some 4) (.t 2)), o 29 (.call (.fn 234) [(.t 27), (.t 28), (.c .nilsl)]), o 8 (.alloc (.ag [(.i .u8 0), (.s []), .nilsl, .nilsl])), u (.store (some 4) (.t 8) (.t 29))]) 
  (.seq 
  (.seq (.region [o 30 (.load (some 4) (.t 8)), o 31 (.call (.fn 100) [(.t 30)]), o 32 (.not (.t 31))]) (.cond (.t 32) 
  (.seq (.region [o 33 (.build [(.i .u8 0), (.s []), .nilsl, .nilsl] []), u (.store (some 4) (.t 4) (.t 33)), o 5 (.mv (.c (.i .i64 3)))]) .ret) .skip)) 
  (.seq (.region [o 34 (.load (some 4) (.t 8)), u (.store (some 4) (.t 4) (.t 34)), o 5 (.mv (.c (.i .i64 0)))]) .ret))))))))⟩
def c164 : AFunc := ⟨3, 63, [(6, (some (some 2)))], (some 
  (.seq (.region [o 4 (.box (.t 1)), o 5 (.box (.t 2)), o 6 (.alloc (.ag [.nilsl, .nilsl]))]) 
  (.seq (.region [o 13 (.fieldAddr 1 none (.t 4)), o 14 (.load none (.t 13)), o 15 (.call (.fn 235) [(.t 14)]), m 7 15]) 
  (.seq 
  (.seq (.region [o 16 (.load (some 4) (.t 5)), o 17 (.call (.fn 134) [(.t 16)]), o 18 (.len 1 (.t 17)), o 19 (.mv (.c (.i .i64 0)))]) (.block 0 (.loop 
  (.seq (.region [o 20 (.bin .lss (.t 19) (.t 18))]) 
  (.seq (.cond (.t 20) .skip (.exit 0)) 
  (.seq (.block 1 
  (.seq (.region [o 21 (.idxSl none (.t 17) (.t 19)), o 22 (.load none (.t 21)), m 9 22]) 
  (.seq (.region [o 24 (.load (some 2) (.t 4)), m 25 9, o 26 (.call (.fn 201) [(.t 24), (.t 25)]), m 23 26, o 27 (.extract (.t 23) 0), o 28 (.extract (.t 23) 1), o 10 (.alloc (.ag [(.b false), (.s []), .nilsl])), u (.store (some 3) (.t 10) (.t 27)), m 11 28]) 
  (.seq (.region [m 29 9, o 30 (.len 0 (.t 29)), o 31 (.bin .gtr (.t 30) (.c (.i .i64 1))), m 32 31, ⟨(some 33), .mv (.t 9), (some (32, true)), []⟩, ⟨(some 34), .indexStr (.t 33) (.c (.i .i64 1)), (some (32, true)), []⟩, ⟨(some 35), .bin .geq (.t 34) (.c (.i .u8 97)), (some (32, true)), []⟩, o 36 (.pick (.t 32) (.t 35) (.c (.b false))), m 37 36, ⟨(some 38), .mv (.t 9), (some (37, true)), []⟩, ⟨(some 39), .indexStr (.t 38) (.c (.i .i64 1)), (some (37, true)), []⟩, ⟨(some 40), .bin .leq (.t 39) (.c (.i .u8 122)), (some (37, true)), []⟩, o 41 (.pick (.t 37) (.t 40) (.c (.b false))), m 12 41]) 
  (.seq (.region [m 42 12, m 43 42, ⟨(some 44), .mv (.t 11), (some (43, true)), []⟩, ⟨(some 45), .not (.t 44), (some (43, true)), []⟩, o 46 (.pick (.t 43) (.t 45) (.c (.b false)))]) (.cond (.t 46) (.region [m 47 7, m 48 9, m 49 0, o 50 (.nilCheck (.t 49)), o 51 (.fieldAddr 2 (some 3) (.t 50)), o 52 (.load (some 3) (.t 51)), o 53 (.build [(.s []), (.b false), (.s []), .nilsl] [(0, 1, (.t 48)), (1, 3, (.t 52))]), o 54 (.buildSlice (some 4) 1 [(.s []), (.b false), (.s []), .nilsl] [(0, (.t 53))]), o 55 (.append (some 4) 64 (.t 47) (.t 54)), m 7 55]) .skip)))))) (.region [o 56 (.bin .add (.t 19) (.c (.i .i64 1))), m 19 56]))))))) 
  (.seq (.region [m 57 7, o 58 (.call (.fn 236) [(.t 57), (.c (.f (.func 237) [] []))])]) 
  (.seq (.region [o 59 (.fieldAddr 0 none (.t 4)), o 60 (.load none (.t 59)), m 61 7, o 62 (.build [.nilsl, .nilsl] [(0, 1, (.t 60)), (1, 1, (.t 61))]), u (.store (some 2) (.t 6) (.t 62))]) .ret))))))⟩
def c165 : AFunc := ⟨2, 77, [(4, (some (some 2)))], (some 
  (.seq (.region [o 3 (.box (.t 1)), o 4 (.alloc (.ag [.nilsl, .nilsl]))]) 
  (.seq (.region [o 5 (.mv (.c .nilsl))]) 
  (.seq 
  (.seq (.region [o 15 (.fieldAddr 6 none (.t 3)), o 16 (.load none (.t 15)), o 17 (.len 1 (.t 16)), o 18 (.mv (.c (.i .i64 0)))]) (.block 0 (.loop 
  (.seq (.region [o 19 (.bin .lss (.t 18) (.t 17))]) 
  (.seq (.cond (.t 19) .skip (.exit 0)) 
  (.seq (.block 1 
  (.seq (.region [m 20 18, o 21 (.idxSl (some 8) (.t 16) (.t 18)), o 22 (.load (some 8) (.t 21)), o 7 (.alloc (.ag [(.s []), (.i .u8 0), (.s []), .nilsl, .nilsl, (.i .i64 0), .nilsl, .nilsl])), m 6 20, u (.store (some 8) (.t 7) (.t 22))]) 
  (.seq (.region [o 23 (.fieldAddr 1 (some 4) (.t 7)), o 24 (.load (some 4) (.t 23)), o 25 (.build [(.i .u8 0), (.s []), .nilsl, .nilsl, .nilsl, .nilsl] [(0, 4, (.t 24))]), o 8 (.alloc (.ag [(.i .u8 0), (.s []), .nilsl, .nilsl, .nilsl, .nilsl])), u (.store (some 6) (.t 8) (.t 25))]) 
  (.seq 
  (.seq (.region [o 26 (.fieldAddr 7 none (.t 3)), o 27 (.load none (.t 26)), m 28 6, o 29 (.idxSl none (.t 27) (.t 28)), o 30 (.load none (.t 29)), o 31 (.len 1 (.t 30)), o 32 (.mv (.c (.i .i64 0)))]) (.block 2 (.loop 
  (.seq (.region [o 33 (.bin .lss (.t 32) (.t 31))]) 
  (.seq (.cond (.t 33) .skip (.exit 2)) 
  (.seq (.block 3 
  (.seq (.region [o 34 (.idxSl none (.t 30) (.t 32)), o 35 (.load none (.t 34)), m 10 35]) 
  (.seq (.region [o 36 (.load (some 8) (.t 7)), m 37 10, o 38 (.call (.fn 162) [(.t 36), (.t 37)]), o 39 (.build [(.b false), (.i .u8 0), (.s []), .nilsl, .nilsl] [(0, 1, (.t 38))]), o 11 (.alloc (.ag [(.b false), (.i .u8 0), (.s []), .nilsl, .nilsl])), u (.store (some 5) (.t 11) (.t 39))]) 
  (.seq 
  (.seq (.region [o 40 (.fieldAddr 0 none (.t 11)), o 41 (.load none (.t 40))]) (.cond (.t 41) (.region [m 42 0, o 43 (.nilCheck (.t 42)), o 44 (.fieldAddr 1 none (.t 43)), o 45 (.load none (.t 44)), m 46 10, o 47 (.lookup (.inl 0) (.t 45) (.t 46) (.ag [(.i .u8 0), (.s []), .nilsl, .nilsl]) false), o 48 (.fieldAddr 1 (some 4) (.t 11)), u (.store (some 4) (.t 48) (.t 47))]) .skip)) (.region [o 49 (.fieldAddr 4 none (.t 8)), o 50 (.load none (.t 49)), o 51 (.load (some 5) (.t 11)), o 52 (.buildSlice (some 5) 1 [(.b false), (.i .u8 0), (.s []), .nilsl, .nilsl] [(0, (.t 51))]), o 53 (.append (some 5) 80 (.t 50) (.t 52)), o 54 (.fieldAddr 4 none (.t 8)), u (.store none (.t 54) (.t 53))]))))) (.region [o 55 (.bin .add (.t 32) (.c (.i .i64 1))), m 32 55]))))))) (.region [m 56 5, o 57 (.load (some 6) (.t 8)), o 58 (.buildSlice (some 6) 1 [(.i .u8 0), (.s []), .nilsl, .nilsl, .nilsl, .nilsl] [(0, (.t 57))]), o 59 (.append (some 6) 120 (.t 56) (.t 58)), m 5 59]))))) (.region [o 60 (.bin .add (.t 18) (.c (.i .i64 1))), m 18 60]))))))) 
  (.seq (.draw [m 62 0, o 63 (.nilCheck (.t 62)), o 64 (.fieldAddr 0 none (.t 63)), ⟨(some 65), .load none (.t 64), none, [12]⟩, o 66 (.fieldAddr 0 none (.t 3)), ⟨(some 67), .load none (.t 66), none, [12]⟩, ⟨(some 68), .lookup (.inl 1) (.t 65) (.t 67) (.ag [(.s []), .nilsl, (.i .u8 0), (.s []), .nilsl, .nilsl]) false, none, [12]⟩, o 69 (.fieldAddr 1 (some 4) (.t 3)), ⟨(some 70), .load (some 4) (.t 69), none, [12]⟩, m 71 5, o 12 (.alloc (.ag [.nilsl, .nilsl])), o 13 (.alloc (.ag [(.i .u8 0), (.i .i64 0), (.i .i64 0)])), o 72 (.call (.fn 65) [(.t 68), (.t 70), (.t 71)]), m 61 72, o 73 (.extract (.t 61) 0), o 74 (.extract (.t 61) 1), o 75 (.extract (.t 61) 2), u (.store (some 2) (.t 12) (.t 73)), u (.store (some 3) (.t 13) (.t 74)), m 14 75]) 
  (.seq (.region [o 76 (.load (some 2) (.t 12)), u (.store (some 2) (.t 4) (.t 76))]) .ret))))))⟩
def c166 : AFunc := ⟨1, 4, [(2, none)], (some (.seq (.region [o 1 (.box (.t 0)), o 2 (.mv (.c .nf))]) (.seq (.region [o 3 (.mkFunc (.func 239) [] [(.t 1)]), m 2 3]) .ret)))⟩
def c167 : AFunc := ⟨1, 57, [(2, (some (some 4)))], (some 
  (.seq (.region [o 2 (.alloc (.ag [(.i .u8 0), (.s []), .nilsl, .nilsl]))]) 
  (.seq (.region [m 6 0, o 7 (.call (.fn 242) [(.t 6)])]) 
  (.seq (.region [o 9 (.call (.fn 243) []), m 10 0, o 11 (.call (.fn 120) [(.t 10)]), o 12 (.field 1 none (.t 11)), o 13 (.lookup (.inl 1) (.t 9) (.t 12) (.i .u8 0) true), m 8 13, o 14 (.extract (.t 8) 0), o 15 (.extract (.t 8) 1), m 3 14, m 4 15]) 
  (.seq 
  (.seq (.region [m 16 4, o 17 (.not (.t 16))]) (.cond (.t 17) 
  (.seq (.region [m 18 0, o 19 (.call (.fn 244) [(.t 18)]), u (.store (some 4) (.t 2) (.t 19))]) .ret) .skip)) 
  (.seq (.region [m 20 0, o 21 (.nilCheck (.t 20)), o 22 (.fieldAddr 1 none (.t 21)), o 23 (.load none (.t 22)), o 24 (.bin .add (.t 23) (.c (.i .i64 1))), o 25 (.nilCheck (.t 20)), o 26 (.fieldAddr 1 none (.t 25)), u (.store none (.t 26) (.t 24))]) 
  (.seq (.region [m 27 3, o 28 (.build [(.i .u8 0), (.s []), .nilsl, .nilsl] [(0, 1, (.t 27))]), o 5 (.alloc (.ag [(.i .u8 0), (.s []), .nilsl, .nilsl])), u (.store (some 4) (.t 5) (.t 28))]) 
  (.seq 
  (.seq (.region [m 29 3, o 30 (.bin .eql (.t 29) (.c (.i .u8 8))), m 31 30, ⟨(some 32), .mv (.t 3), (some (31, false)), []⟩, ⟨(some 33), .bin .eql (.t 32) (.c (.i .u8 9)), (some (31, false)), []⟩, o 34 (.pick (.t 31) (.c (.b true)) (.t 33))]) (.cond (.t 34) (.region [m 35 0, o 36 (.call (.fn 245) [(.t 35), (.c (.i .u8 1)), (.c (.f (.func 203) [] []))]), o 37 (.fieldAddr 1 none (.t 5)), u (.store none (.t 37) (.t 36))]) .skip)) 
  (.seq (.region [m 38 0, o 39 (.nilCheck (.t 38)), o 40 (.fieldAddr 2 none (.t 39)), o 41 (.load none (.t 40)), o 42 (.bin .add (.t 41) (.c (.i .i64 1))), o 43 (.nilCheck (.t 38)), o 44 (.fieldAddr 2 none (.t 43)), u (.store none (.t 44) (.t 42))]) 
  (.seq (.region [m 45 0, o 46 (.call (.fn 167) [(.t 45)]), o 47 (.buildSlice (some 4) 1 [(.i .u8 0), (.s []), .nilsl, .nilsl] [(0, (.t 46))]), o 48 (.fieldAddr 3 none (.t 5)), u (.store none (.t 48) (.t 47))]) 
  (.seq (.region [m 49 0, o 50 (.nilCheck (.t 49)), o 51 (.fieldAddr 2 none (.t 50)), o 52 (.load none (.t 51)), o 53 (.bin .sub (.t 52) (.c (.i .i64 1))), o 54 (.nilCheck (.t 49)), o 55 (.fieldAddr 2 none (.t 54)), u (.store none (.t 55) (.t 53))]) 
  (.seq (.region [o 56 (.load (some 4) (.t 5)), u (.store (some 4) (.t 2) (.t 56))]) .ret))))))))))))⟩
def c168 : AFunc := ⟨2, 17, [(4, none)], (some 
  (.seq (.region [o 4 (.mv (.c (.b false)))]) 
  (.seq 
  (.seq (.region [m 5 0, o 6 (.call (.fn 120) [(.t 5)]), o 7 (.field 1 none (.t 6)), m 8 1, o 9 (.bin .neq (.t 7) (.t 8))]) (.cond (.t 9) 
  (.seq (.region [o 4 (.mv (.c (.b false)))]) .ret) .skip)) 
  (.seq (.region [m 10 0, o 11 (.nilCheck (.t 10)), o 12 (.fieldAddr 1 none (.t 11)), o 13 (.load none (.t 12)), o 14 (.bin .add (.t 13) (.c (.i .i64 1))), o 15 (.nilCheck (.t 10)), o 16 (.fieldAddr 1 none (.t 15)), u (.store none (.t 16) (.t 14))]) 
  (.seq (.region [o 4 (.mv (.c (.b true)))]) .ret)))))⟩
def c169 : AFunc := ⟨2, 25, [(4, none)], (some 
  (.seq (.region [o 4 (.mv (.c (.b false)))]) 
  (.seq (.region [m 5 0, o 6 (.nilCheck (.t 5)), o 7 (.fieldAddr 1 none (.t 6)), o 8 (.load none (.t 7)), o 9 (.bin .sub (.t 8) (.c (.i .i64 1))), o 10 (.nilCheck (.t 5)), o 11 (.fieldAddr 1 none (.t 10)), u (.store none (.t 11) (.t 9))]) 
  (.seq (.region [m 12 0, o 13 (.nilCheck (.t 12)), o 14 (.fieldAddr 1 none (.t 13)), o 15 (.load none (.t 14)), o 16 (.bin .geq (.t 15) (.c (.i .i64 0))), m 17 16, ⟨(some 18), .mv (.t 1), (some (17, true)), []⟩, ⟨(some 19), .mv (.t 0), (some (17, true)), []⟩, ⟨(some 20), .nilCheck (.t 19), (some (17, true)), []⟩, ⟨(some 21), .fieldAddr 2 none (.t 20), (some (17, true)), []⟩, ⟨(some 22), .load none (.t 21), (some (17, true)), []⟩, ⟨(some 23), .bin .leq (.t 18) (.t 22), (some (17, true)), []⟩, o 24 (.pick (.t 17) (.t 23) (.c (.b false))), m 4 24]) .ret))))⟩
def c170 : AFunc := ⟨2, 20, [(4, none)], (some 
  (.seq (.region [o 4 (.mv (.c (.b false)))]) 
  (.seq 
  (.seq (.region [m 5 0]) (.block 0 
  (.seq (.region [o 7 (.bin .eql (.t 5) (.c (.i .u8 1))), m 6 7]) (.cond (.t 6) 
  (.seq (.region [m 8 1, o 9 (.call (.fn 135) [(.t 8)]), m 4 9]) .ret) 
  (.seq (.region [o 11 (.bin .eql (.t 5) (.c (.i .u8 2))), m 10 11]) (.cond (.t 10) 
  (.seq (.region [m 12 1, o 13 (.call (.fn 203) [(.t 12)]), m 4 13]) .ret) 
  (.seq (.region [o 15 (.bin .eql (.t 5) (.c (.i .u8 3))), m 14 15]) (.cond (.t 14) 
  (.seq (.region [m 16 1, o 17 (.call (.fn 246) [(.t 16)]), m 4 17]) .ret) .skip)))))))) 
  (.seq (.region [m 18 1, o 19 (.bin .eql (.t 18) (.c (.s []))), m 4 19]) .ret))))⟩
def c172 : AFunc := ⟨3, 21, [(6, none)], (some 
  (.seq (.region [o 6 (.mv (.c (.b false)))]) 
  (.seq 
  (.seq (.region [m 9 1, o 10 (.len 1 (.t 9)), o 11 (.mv (.c (.i .i64 0)))]) (.block 0 (.loop 
  (.seq (.region [o 12 (.bin .lss (.t 11) (.t 10))]) 
  (.seq (.cond (.t 12) .skip (.exit 0)) 
  (.seq (.block 1 
  (.seq (.region [o 13 (.idxSl (some 3) (.t 9) (.t 11)), o 14 (.load (some 3) (.t 13)), o 8 (.alloc (.ag [(.b false), (.s []), .nilsl])), u (.store (some 3) (.t 8) (.t 14))]) 
  (.seq (.region [m 15 0, o 16 (.load (some 3) (.t 8)), m 17 2, o 18 (.call (.fn 248) [(.t 15), (.t 16), (.t 17)]), o 19 (.not (.t 18))]) (.cond (.t 19) 
  (.seq (.region [o 6 (.mv (.c (.b false)))]) .ret) .skip)))) (.region [o 20 (.bin .add (.t 11) (.c (.i .i64 1))), m 11 20]))))))) 
  (.seq (.region [o 6 (.mv (.c (.b true)))]) .ret))))⟩
def c178 : AFunc := ⟨2, 8, [(4, none)], (some (.seq (.region [o 4 (.mv (.c (.i .i64 0)))]) (.seq (.region [m 5 0, m 6 1, o 7 (.call (.fn 250) [(.t 5), (.t 6)]), m 4 7]) .ret)))⟩
def c184 : AFunc := ⟨2, 37, [], (some 
  (.seq (.region [o 2 (.box (.t 0))]) 
  (.seq 
  (.seq (.region [o 6 (.fieldAddr 0 none (.t 2)), o 7 (.load none (.t 6)), o 8 (.bin .eql (.t 7) (.c (.i .u8 15))), m 9 8, ⟨(some 10), .fieldAddr 0 none (.t 2), (some (9, false)), []⟩, ⟨(some 11), .load none (.t 10), (some (9, false)), []⟩, ⟨(some 12), .bin .eql (.t 11) (.c (.i .u8 16)), (some (9, false)), []⟩, o 13 (.pick (.t 9) (.c (.b true)) (.t 12)), m 14 13, ⟨(some 15), .fieldAddr 1 none (.t 2), (some (14, true)), []⟩, ⟨(some 16), .load none (.t 15), (some (14, true)), []⟩, ⟨(some 17), .call (.fn 252) [(.t 16)], (some (14, true)), []⟩, o 18 (.pick (.t 14) (.t 17) (.c (.b false)))]) (.cond (.t 18) (.region [m 19 1, o 20 (.fieldAddr 1 none (.t 2)), o 21 (.load none (.t 20)), u (.mapUpd (.inl 1) (.t 19) (.t 21) (.c (.b true)))]) .skip)) 
  (.seq (.region [o 22 (.fieldAddr 2 none (.t 2)), o 23 (.load none (.t 22)), m 24 1, o 25 (.call (.fn 253) [(.t 23), (.t 24)])]) 
  (.seq (.region [o 26 (.fieldAddr 3 none (.t 2)), o 27 (.load none (.t 26)), o 28 (.len 1 (.t 27)), o 29 (.mv (.c (.i .i64 0)))]) (.block 0 (.loop 
  (.seq (.region [o 30 (.bin .lss (.t 29) (.t 28))]) 
  (.seq (.cond (.t 30) .skip (.exit 0)) 
  (.seq (.block 1 
  (.seq (.region [o 31 (.idxSl (some 4) (.t 27) (.t 29)), o 32 (.load (some 4) (.t 31)), o 5 (.alloc (.ag [(.i .u8 0), (.s []), .nilsl, .nilsl])), u (.store (some 4) (.t 5) (.t 32))]) (.region [o 33 (.load (some 4) (.t 5)), m 34 1, o 35 (.call (.fn 184) [(.t 33), (.t 34)])]))) (.region [o 36 (.bin .add (.t 29) (.c (.i .i64 1))), m 29 36])))))))))))⟩
def c185 : AFunc := ⟨2, 6, [(4, none)], (some (.seq (.region [o 2 (.box (.t 0)), o 3 (.box (.t 1)), o 4 (.mv (.c .nf))]) (.seq (.region [o 5 (.mkFunc (.func 254) [] [(.t 2), (.t 3)]), m 4 5]) .ret)))⟩
def c186 : AFunc := ⟨1, 9, [(2, none)], (some 
  (.seq (.region [o 2 (.mv (.c (.b false)))]) 
  (.seq (.region [m 3 0, o 4 (.bin .geq (.t 3) (.c (.i .u8 65))), m 5 4, ⟨(some 6), .mv (.t 0), (some (5, true)), []⟩, ⟨(some 7), .bin .leq (.t 6) (.c (.i .u8 90)), (some (5, true)), []⟩, o 8 (.pick (.t 5) (.t 7) (.c (.b false))), m 2 8]) .ret)))⟩
def c188 : AFunc := ⟨2, 6, [], (some (.region [o 3 (.load (some 4) (.t 1)), m 4 0, o 5 (.call (.fn 189) [(.t 3), (.t 4)])]))⟩
def c189 : AFunc := ⟨2, 23, [(4, none)], (some 
  (.seq (.region [o 2 (.box (.t 0)), o 4 (.mv (.c (.b false)))]) 
  (.seq 
  (.seq (.region [m 7 1, o 8 (.load (some 4) (.t 2)), o 9 (.call (.val (.t 7)) [(.t 8)]), o 10 (.not (.t 9))]) (.cond (.t 10) 
  (.seq (.region [o 4 (.mv (.c (.b false)))]) .ret) .skip)) 
  (.seq 
  (.seq (.region [o 11 (.fieldAddr 3 none (.t 2)), o 12 (.load none (.t 11)), o 13 (.len 1 (.t 12)), o 14 (.mv (.c (.i .i64 0)))]) (.block 0 (.loop 
  (.seq (.region [o 15 (.bin .lss (.t 14) (.t 13))]) 
  (.seq (.cond (.t 15) .skip (.exit 0)) 
  (.seq (.block 1 
  (.seq (.region [o 16 (.idxSl (some 4) (.t 12) (.t 14)), o 17 (.load (some 4) (.t 16)), o 6 (.alloc (.ag [(.i .u8 0), (.s []), .nilsl, .nilsl])), u (.store (some 4) (.t 6) (.t 17))]) 
  (.seq (.region [o 18 (.load (some 4) (.t 6)), m 19 1, o 20 (.call (.fn 189) [(.t 18), (.t 19)]), o 21 (.not (.t 20))]) (.cond (.t 21) 
  (.seq (.region [o 4 (.mv (.c (.b false)))]) .ret) .skip)))) (.region [o 22 (.bin .add (.t 14) (.c (.i .i64 1))), m 14 22]))))))) 
  (.seq (.region [o 4 (.mv (.c (.b true)))]) .ret)))))⟩
def c190 : AFunc := ⟨2, 19, [(4, none)], (some 
  (.seq (.region [o 4 (.mv (.c (.i .i64 0)))]) 
  (.seq 
  (.seq (.region [m 6 0, o 7 (.len 1 (.t 6)), o 8 (.mv (.c (.i .i64 0)))]) (.block 0 (.loop 
  (.seq (.region [o 9 (.bin .lss (.t 8) (.t 7))]) 
  (.seq (.cond (.t 9) .skip (.exit 0)) 
  (.seq (.block 1 
  (.seq (.region [m 10 8, m 5 10]) 
  (.seq (.region [m 11 1, m 12 0, m 13 5, o 14 (.idxSl none (.t 12) (.t 13)), o 15 (.load none (.t 14)), o 16 (.bin .eql (.t 11) (.t 15))]) (.cond (.t 16) 
  (.seq (.region [m 17 5, m 4 17]) .ret) .skip)))) (.region [o 18 (.bin .add (.t 8) (.c (.i .i64 1))), m 8 18]))))))) 
  (.seq (.region [o 4 (.mv (.c (.i .i64 (-1))))]) .ret))))⟩
def c191 : AFunc := ⟨1, 21, [(2, none)], (some 
  (.seq (.region [o 1 (.box (.t 0)), o 2 (.mv (.c .nilsl))]) 
  (.seq (.region [o 5 (.mkMap), o 3 (.alloc (.m none)), u (.store none (.t 3) (.t 5))]) 
  (.seq 
  (.seq (.region [o 6 (.load (some 4) (.t 1)), o 7 (.call (.fn 136) [(.t 6)])]) (.block 0 (.rangeFunc (.t 7) [8] (.region [o 4 (.alloc (.ag [(.i .u8 0), (.s []), .nilsl, .nilsl])), u (.store (some 4) (.t 4) (.t 8))]) (.block 1 
  (.seq (.region [o 9 (.fieldAddr 0 none (.t 4)), o 10 (.load none (.t 9)), o 11 (.bin .eql (.t 10) (.c (.i .u8 1)))]) (.cond (.t 11) (.region [o 12 (.load none (.t 3)), o 13 (.fieldAddr 1 none (.t 4)), o 14 (.load none (.t 13)), o 15 (.fieldAddr 2 none (.t 4)), o 16 (.load none (.t 15)), o 17 (.len 1 (.t 16)), o 18 (.build [(.s []), (.i .i64 0)] [(0, 1, (.t 14)), (1, 1, (.t 17))]), u (.mapUpd (.inr [1, 0]) (.t 12) (.t 18) (.c (.b true)))]) .skip)))))) 
  (.seq (.region [o 19 (.load none (.t 3)), o 20 (.call (.fn 258) [(.t 19)]), m 2 20]) .ret)))))⟩
def c192 : AFunc := ⟨1, 15, [(2, none)], (some 
  (.seq (.region [o 1 (.box (.t 0)), o 2 (.mv (.c .nilsl))]) 
  (.seq (.region [o 5 (.mkMap), o 3 (.alloc (.m none)), u (.store none (.t 3) (.t 5))]) 
  (.seq 
  (.seq (.region [o 6 (.load (some 4) (.t 1)), o 7 (.call (.fn 136) [(.t 6)])]) (.block 0 (.rangeFunc (.t 7) [8] (.region [o 4 (.alloc (.ag [(.i .u8 0), (.s []), .nilsl, .nilsl])), u (.store (some 4) (.t 4) (.t 8))]) (.block 1 (.region [o 9 (.fieldAddr 2 none (.t 4)), o 10 (.load none (.t 9)), o 11 (.mkFunc (.func 260) [] [(.t 3)]), o 12 (.call (.fn 259) [(.t 10), (.t 11)])]))))) 
  (.seq (.region [o 13 (.load none (.t 3)), o 14 (.call (.fn 258) [(.t 13)]), m 2 14]) .ret)))))⟩
def c193 : AFunc := ⟨1, 63, [(2, none)], (some 
  (.seq (.region [o 1 (.box (.t 0)), o 2 (.mv (.c (.b false)))]) 
  (.seq (.region [o 3 (.mv (.c .nilsl)), o 4 (.mv (.c .nilsl))]) 
  (.seq 
  (.seq (.region [o 9 (.fieldAddr 0 none (.t 1)), o 10 (.load none (.t 9)), o 11 (.len 1 (.t 10)), o 12 (.mv (.c (.i .i64 0)))]) (.block 0 (.loop 
  (.seq (.region [o 13 (.bin .lss (.t 12) (.t 11))]) 
  (.seq (.cond (.t 13) .skip (.exit 0)) 
  (.seq (.block 1 
  (.seq (.region [o 14 (.idxSl (some 5) (.t 10) (.t 12)), o 15 (.load (some 5) (.t 14)), o 6 (.alloc (.ag [(.s []), (.i .u8 0), (.s []), .nilsl, .nilsl])), u (.store (some 5) (.t 6) (.t 15))]) 
  (.seq 
  (.seq (.region [o 16 (.fieldAddr 0 none (.t 6)), o 17 (.load none (.t 16)), o 18 (.call (.fn 261) [(.t 17)]), o 19 (.not (.t 18)), m 20 19, ⟨(some 21), .fieldAddr 1 (some 4) (.t 6), (some (20, false)), []⟩, ⟨(some 22), .load (some 4) (.t 21), (some (20, false)), []⟩, ⟨(some 23), .call (.fn 262) [(.t 22)], (some (20, false)), []⟩, ⟨(some 24), .call (.fn 100) [(.t 23)], (some (20, false)), []⟩, ⟨(some 25), .not (.t 24), (some (20, false)), []⟩, o 26 (.pick (.t 20) (.c (.b true)) (.t 25))]) (.cond (.t 26) 
  (.seq (.region [o 2 (.mv (.c (.b false)))]) .ret) .skip)) (.region [m 27 3, o 28 (.fieldAddr 0 none (.t 6)), o 29 (.load none (.t 28)), o 30 (.buildSlice none 1 [(.s [])] [(0, (.t 29))]), o 31 (.append none 16 (.t 27) (.t 30)), m 3 31])))) (.region [o 32 (.bin .add (.t 12) (.c (.i .i64 1))), m 12 32]))))))) 
  (.seq 
  (.seq (.region [o 33 (.fieldAddr 1 none (.t 1)), o 34 (.load none (.t 33)), o 35 (.len 1 (.t 34)), o 36 (.mv (.c (.i .i64 0)))]) (.block 2 (.loop 
  (.seq (.region [o 37 (.bin .lss (.t 36) (.t 35))]) 
  (.seq (.cond (.t 37) .skip (.exit 2)) 
  (.seq (.block 3 
  (.seq (.region [o 38 (.idxSl (some 4) (.t 34) (.t 36)), o 39 (.load (some 4) (.t 38)), o 8 (.alloc (.ag [(.s []), (.b false), (.s []), .nilsl])), u (.store (some 4) (.t 8) (.t 39))]) 
  (.seq 
  (.seq (.region [o 40 (.fieldAddr 0 none (.t 8)), o 41 (.load none (.t 40)), o 42 (.call (.fn 263) [(.t 41)]), o 43 (.not (.t 42)), m 44 43, ⟨(some 45), .fieldAddr 1 (some 3) (.t 8), (some (44, false)), []⟩, ⟨(some 46), .load (some 3) (.t 45), (some (44, false)), []⟩, ⟨(some 47), .call (.fn 265) [(.t 46)], (some (44, false)), []⟩, ⟨(some 48), .call (.fn 264) [(.t 47)], (some (44, false)), []⟩, ⟨(some 49), .not (.t 48), (some (44, false)), []⟩, o 50 (.pick (.t 44) (.c (.b true)) (.t 49))]) (.cond (.t 50) 
  (.seq (.region [o 2 (.mv (.c (.b false)))]) .ret) .skip)) (.region [m 51 4, o 52 (.fieldAddr 0 none (.t 8)), o 53 (.load none (.t 52)), o 54 (.buildSlice none 1 [(.s [])] [(0, (.t 53))]), o 55 (.append none 16 (.t 51) (.t 54)), m 4 55])))) (.region [o 56 (.bin .add (.t 36) (.c (.i .i64 1))), m 36 56]))))))) 
  (.seq (.region [m 57 3, o 58 (.call (.fn 266) [(.t 57)]), m 59 58, ⟨(some 60), .mv (.t 4), (some (59, true)), []⟩, ⟨(some 61), .call (.fn 266) [(.t 60)], (some (59, true)), []⟩, o 62 (.pick (.t 59) (.t 61) (.c (.b false))), m 2 62]) .ret))))))⟩
def c194 : AFunc := ⟨1, 45, [(2, none)], (some 
  (.seq (.region [o 1 (.box (.t 0)), o 2 (.mv (.c (.p none)))]) 
  (.seq (.region [o 8 (.mkMap), o 9 (.mkMap), o 10 (.build [(.m none), (.m none)] [(0, 1, (.t 8)), (1, 1, (.t 9))]), o 11 (.box (.t 10)), m 3 11]) 
  (.seq 
  (.seq (.region [o 12 (.fieldAddr 0 none (.t 1)), o 13 (.load none (.t 12)), o 14 (.len 1 (.t 13)), o 15 (.mv (.c (.i .i64 0)))]) (.block 0 (.loop 
  (.seq (.region [o 16 (.bin .lss (.t 15) (.t 14))]) 
  (.seq (.cond (.t 16) .skip (.exit 0)) 
  (.seq (.block 1 
  (.seq (.region [o 17 (.idxSl (some 5) (.t 13) (.t 15)), o 18 (.load (some 5) (.t 17)), o 5 (.alloc (.ag [(.s []), (.i .u8 0), (.s []), .nilsl, .nilsl])), u (.store (some 5) (.t 5) (.t 18))]) (.draw [m 19 3, o 20 (.nilCheck (.t 19)), o 21 (.fieldAddr 0 none (.t 20)), o 22 (.load none (.t 21)), o 23 (.fieldAddr 0 none (.t 5)), o 24 (.load none (.t 23)), o 25 (.fieldAddr 1 (some 4) (.t 5)), o 26 (.load (some 4) (.t 25)), u (.mapUpd (.inl 1) (.t 22) (.t 24) (.t 26))]))) (.region [o 27 (.bin .add (.t 15) (.c (.i .i64 1))), m 15 27]))))))) 
  (.seq 
  (.seq (.region [o 28 (.fieldAddr 1 none (.t 1)), o 29 (.load none (.t 28)), o 30 (.len 1 (.t 29)), o 31 (.mv (.c (.i .i64 0)))]) (.block 2 (.loop 
  (.seq (.region [o 32 (.bin .lss (.t 31) (.t 30))]) 
  (.seq (.cond (.t 32) .skip (.exit 2)) 
  (.seq (.block 3 
  (.seq (.region [o 33 (.idxSl (some 4) (.t 29) (.t 31)), o 34 (.load (some 4) (.t 33)), o 7 (.alloc (.ag [(.s []), (.b false), (.s []), .nilsl])), u (.store (some 4) (.t 7) (.t 34))]) (.draw [m 35 3, o 36 (.nilCheck (.t 35)), o 37 (.fieldAddr 1 none (.t 36)), o 38 (.load none (.t 37)), o 39 (.fieldAddr 0 none (.t 7)), o 40 (.load none (.t 39)), o 41 (.fieldAddr 1 (some 3) (.t 7)), o 42 (.load (some 3) (.t 41)), u (.mapUpd (.inl 1) (.t 38) (.t 40) (.t 42))]))) (.region [o 43 (.bin .add (.t 31) (.c (.i .i64 1))), m 31 43]))))))) 
  (.seq (.region [m 44 3, m 2 44]) .ret))))))⟩
def c195 : AFunc := ⟨2, 119, [(4, none)], (some 
  (.seq (.region [o 3 (.box (.t 1)), o 4 (.mv (.c (.i .i64 0)))]) 
  (.seq (.draw [o 14 (.fieldAddr 0 (some 4) (.t 3)), ⟨(some 15), .load (some 4) (.t 14), none, [6]⟩, o 16 (.fieldAddr 4 (some 4) (.t 3)), ⟨(some 17), .load (some 4) (.t 16), none, [6, 7]⟩, o 5 (.alloc (.ag [(.i .u8 0), (.s []), .nilsl, .nilsl])), o 6 (.alloc (.ag [(.i .u8 0), (.s []), .nilsl, .nilsl])), u (.store (some 4) (.t 5) (.t 15)), u (.store (some 4) (.t 6) (.t 17))]) 
  (.seq 
  (.seq (.region [o 18 (.fieldAddr 0 none (.t 5)), o 19 (.load none (.t 18))]) (.block 0 
  (.seq (.region [o 21 (.bin .eql (.t 19) (.c (.i .u8 16))), m 20 21]) (.cond (.t 20) 
  (.seq (.region [o 4 (.mv (.c (.i .i64 0)))]) .ret) 
  (.seq (.region [o 23 (.bin .eql (.t 19) (.c (.i .u8 15))), m 22 23]) (.cond (.t 22) 
  (.seq (.region [o 25 (.load (some 9) (.t 3)), o 26 (.load (some 4) (.t 6)), o 27 (.call (.fn 267) [(.t 25), (.t 26), (.c .nilsl)]), m 24 27, o 28 (.extract (.t 24) 0), o 29 (.extract (.t 24) 1), o 7 (.alloc (.ag [(.i .u8 0), (.s []), .nilsl, .nilsl])), u (.store (some 4) (.t 7) (.t 28)), m 8 29]) 
  (.seq 
  (.seq (.region [m 30 8, o 31 (.not (.t 30))]) (.cond (.t 31) 
  (.seq (.region [o 4 (.mv (.c (.i .i64 70)))]) .ret) .skip)) 
  (.seq (.draw [m 33 0, o 34 (.nilCheck (.t 33)), o 35 (.fieldAddr 0 none (.t 34)), ⟨(some 36), .load none (.t 35), none, [11]⟩, o 37 (.fieldAddr 1 none (.t 5)), ⟨(some 38), .load none (.t 37), none, [11]⟩, ⟨(some 39), .lookup (.inl 1) (.t 36) (.t 38) (.ag [(.i .u8 0), (.s []), .nilsl, .nilsl]) true, none, [11]⟩, m 32 39, o 40 (.extract (.t 32) 0), o 41 (.extract (.t 32) 1), o 9 (.alloc (.ag [(.i .u8 0), (.s []), .nilsl, .nilsl])), u (.store (some 4) (.t 9) (.t 40)), m 8 41]) 
  (.seq 
  (.seq (.region [m 42 8, o 43 (.not (.t 42))]) (.cond (.t 43) (.draw [m 44 0, o 45 (.nilCheck (.t 44)), o 46 (.fieldAddr 0 none (.t 45)), o 47 (.load none (.t 46)), o 48 (.fieldAddr 1 none (.t 5)), o 49 (.load none (.t 48)), o 50 (.load (some 4) (.t 7)), u (.mapUpd (.inl 1) (.t 47) (.t 49) (.t 50))]) 
  (.seq (.region [o 51 (.load (some 4) (.t 9)), o 52 (.load (some 4) (.t 7)), o 53 (.call (.fn 268) [(.t 51), (.t 52), (.c .nilsl)]), o 54 (.not (.t 53))]) (.cond (.t 54) 
  (.seq (.region [o 4 (.mv (.c (.i .i64 70)))]) .ret) .skip)))) 
  (.seq (.region [o 4 (.mv (.c (.i .i64 0)))]) .ret))))) .skip)))))) 
  (.seq 
  (.seq (.region [o 55 (.fieldAddr 0 none (.t 5)), o 56 (.load none (.t 55)), o 57 (.fieldAddr 0 none (.t 6)), o 58 (.load none (.t 57)), o 59 (.bin .neq (.t 56) (.t 58)), m 60 59, ⟨(some 61), .fieldAddr 2 none (.t 5), (some (60, false)), []⟩, ⟨(some 62), .load none (.t 61), (some (60, false)), []⟩, ⟨(some 63), .len 1 (.t 62), (some (60, false)), []⟩, ⟨(some 64), .fieldAddr 2 none (.t 6), (some (60, false)), []⟩, ⟨(some 65), .load none (.t 64), (some (60, false)), []⟩, ⟨(some 66), .len 1 (.t 65), (some (60, false)), []⟩, ⟨(some 67), .bin .neq (.t 63) (.t 66), (some (60, false)), []⟩, o 68 (.pick (.t 60) (.c (.b true)) (.t 67)), m 69 68, ⟨(some 70), .fieldAddr 3 none (.t 5), (some (69, false)), []⟩, ⟨(some 71), .load none (.t 70), (some (69, false)), []⟩, ⟨(some 72), .len 1 (.t 71), (some (69, false)), []⟩, ⟨(some 73), .fieldAddr 3 none (.t 6), (some (69, false)), []⟩, ⟨(some 74), .load none (.t 73), (some (69, false)), []⟩, ⟨(some 75), .len 1 (.t 74), (some (69, false)), []⟩, ⟨(some 76), .bin .neq (.t 72) (.t 75), (some (69, false)), []⟩, o 77 (.pick (.t 69) (.c (.b true)) (.t 76)), m 78 77, ⟨(some 79), .fieldAddr 1 none (.t 5), (some (78, false)), []⟩, ⟨(some 80), .load none (.t 79), (some (78, false)), []⟩, ⟨(some 81), .fieldAddr 1 none (.t 6), (some (78, false)), []⟩, ⟨(some 82), .load none (.t 81), (some (78, false)), []⟩, ⟨(some 83), .bin .neq (.t 80) (.t 82), (some (78, false)), []⟩, ⟨(some 84), .mv (.t 83), (some (78, false)), []⟩, ⟨(some 85), .load (some 4) (.t 5), (some (84, true)), []⟩, ⟨(some 86), .call (.fn 269) [(.t 85)], (some (84, true)), []⟩, ⟨(some 87), .not (.t 86), (some (84, true)), []⟩, ⟨(some 88), .pick (.t 84) (.t 87) (.c (.b false)), (some (78, false)), []⟩, o 89 (.pick (.t 78) (.c (.b true)) (.t 88))]) (.cond (.t 89) 
  (.seq (.region [o 4 (.mv (.c (.i .i64 70)))]) .ret) .skip)) 
  (.seq 
  (.seq (.region [o 90 (.fieldAddr 2 none (.t 5)), o 91 (.load none (.t 90)), o 92 (.len 1 (.t 91)), o 93 (.mv (.c (.i .i64 0)))]) (.block 1 (.loop 
  (.seq (.region [o 94 (.bin .lss (.t 93) (.t 92))]) 
  (.seq (.cond (.t 94) .skip (.exit 1)) 
  (.seq (.block 2 
  (.seq (.region [m 95 93, o 96 (.idxSl (some 3) (.t 91) (.t 93)), o 97 (.load (some 3) (.t 96)), o 11 (.alloc (.ag [(.b false), (.s []), .nilsl])), m 10 95, u (.store (some 3) (.t 11) (.t 97))]) 
  (.seq (.draw [⟨(some 99), .load (some 9) (.t 3), none, [7]⟩, o 100 (.fieldAddr 2 none (.t 6)), ⟨(some 101), .load none (.t 100), none, [7]⟩, m 102 10, o 103 (.idxSl (some 3) (.t 101) (.t 102)), ⟨(some 104), .load (some 3) (.t 103), none, [7]⟩, o 12 (.alloc (.ag [(.b false), (.s []), .nilsl])), o 105 (.call (.fn 270) [(.t 99), (.t 104), (.c .nilsl)]), m 98 105, o 106 (.extract (.t 98) 0), o 107 (.extract (.t 98) 1), u (.store (some 3) (.t 12) (.t 106)), m 13 107]) 
  (.seq (.region [m 108 13, o 109 (.not (.t 108)), m 110 109, ⟨(some 111), .mv (.t 0), (some (110, false)), []⟩, ⟨(some 112), .load (some 9) (.t 3), (some (110, false)), []⟩, ⟨(some 113), .load (some 3) (.t 11), (some (110, false)), []⟩, ⟨(some 114), .load (some 3) (.t 12), (some (110, false)), []⟩, ⟨(some 115), .call (.fn 271) [(.t 111), (.t 112), (.t 113), (.t 114)], (some (110, false)), []⟩, ⟨(some 116), .not (.t 115), (some (110, false)), []⟩, o 117 (.pick (.t 110) (.c (.b true)) (.t 116))]) (.cond (.t 117) 
  (.seq (.region [o 4 (.mv (.c (.i .i64 70)))]) .ret) .skip))))) (.region [o 118 (.bin .add (.t 93) (.c (.i .i64 1))), m 93 118]))))))) 
  (.seq (.region [o 4 (.mv (.c (.i .i64 0)))]) .ret)))))))⟩
def c196 : AFunc := ⟨2, 95, [(4, none)], (some 
  (.seq (.region [o 3 (.box (.t 1)), o 4 (.mv (.c (.i .i64 0)))]) 
  (.seq 
  (.seq (.region [o 13 (.fieldAddr 0 (some 4) (.t 3)), o 14 (.fieldAddr 0 none (.t 13)), o 15 (.load none (.t 14)), o 16 (.bin .neq (.t 15) (.c (.i .u8 16)))]) (.cond (.t 16) 
  (.seq (.region [o 4 (.mv (.c (.i .i64 0)))]) .ret) .skip)) 
  (.seq (.draw [m 18 0, o 19 (.nilCheck (.t 18)), o 20 (.fieldAddr 0 none (.t 19)), ⟨(some 21), .load none (.t 20), none, [12]⟩, o 22 (.fieldAddr 0 (some 4) (.t 3)), o 23 (.fieldAddr 1 none (.t 22)), ⟨(some 24), .load none (.t 23), none, [12]⟩, ⟨(some 25), .lookup (.inl 1) (.t 21) (.t 24) (.ag [(.i .u8 0), (.s []), .nilsl, .nilsl]) true, none, [12]⟩, m 17 25, o 26 (.extract (.t 17) 0), o 27 (.extract (.t 17) 1), o 5 (.alloc (.ag [(.i .u8 0), (.s []), .nilsl, .nilsl])), u (.store (some 4) (.t 5) (.t 26)), m 6 27]) 
  (.seq 
  (.seq (.region [m 28 6, o 29 (.not (.t 28))]) (.cond (.t 29) 
  (.seq (.region [o 4 (.mv (.c (.i .i64 71)))]) .ret) .skip)) 
  (.seq (.region [o 31 (.load (some 9) (.t 3)), o 32 (.fieldAddr 4 (some 4) (.t 3)), o 33 (.load (some 4) (.t 32)), o 34 (.call (.fn 267) [(.t 31), (.t 33), (.c .nilsl)]), m 30 34, o 35 (.extract (.t 30) 0), o 36 (.extract (.t 30) 1), o 7 (.alloc (.ag [(.i .u8 0), (.s []), .nilsl, .nilsl])), u (.store (some 4) (.t 7) (.t 35)), m 6 36]) 
  (.seq 
  (.seq (.region [m 37 6, o 38 (.not (.t 37))]) (.cond (.t 38) 
  (.seq (.region [o 4 (.mv (.c (.i .i64 70)))]) .ret) .skip)) 
  (.seq (.region [o 40 (.fieldAddr 0 (some 4) (.t 3)), o 41 (.load (some 4) (.t 40)), o 42 (.call (.fn 272) [(.t 41)]), m 39 42, o 43 (.extract (.t 39) 0), o 44 (.extract (.t 39) 1), m 8 43, m 9 44]) 
  (.seq 
  (.seq (.region [o 45 (.load (some 4) (.t 5)), m 46 8, o 47 (.call (.fn 273) [(.t 45), (.t 46)]), m 10 47]) 
  (.seq (.region [m 48 10, o 49 (.bin .gtr (.t 48) (.c (.i .i64 0)))]) (.cond (.t 49) 
  (.seq (.region [m 51 0, o 52 (.nilCheck (.t 51)), o 53 (.fieldAddr 1 none (.t 52)), o 54 (.load none (.t 53)), m 55 9, o 56 (.lookup (.inl 1) (.t 54) (.t 55) (.ag [(.b false), (.s []), .nilsl]) true), m 50 56, o 57 (.extract (.t 50) 0), o 58 (.extract (.t 50) 1), o 11 (.alloc (.ag [(.b false), (.s []), .nilsl])), u (.store (some 3) (.t 11) (.t 57)), m 12 58]) 
  (.seq 
  (.seq (.region [m 59 12, o 60 (.not (.t 59))]) (.cond (.t 60) 
  (.seq (.region [o 62 (.load (some 4) (.t 5)), o 63 (.load (some 4) (.t 7)), m 64 8, o 65 (.call (.fn 274) [(.t 62), (.t 63), (.t 64)]), m 61 65, o 66 (.extract (.t 61) 0), o 67 (.extract (.t 61) 1), u (.store (some 3) (.t 11) (.t 66)), m 12 67]) 
  (.seq 
  (.seq (.region [m 68 12, o 69 (.not (.t 68))]) (.cond (.t 69) 
  (.seq (.region [o 4 (.mv (.c (.i .i64 70)))]) .ret) .skip)) (.draw [m 70 0, o 71 (.nilCheck (.t 70)), o 72 (.fieldAddr 1 none (.t 71)), o 73 (.load none (.t 72)), m 74 9, o 75 (.load (some 3) (.t 11)), u (.mapUpd (.inl 1) (.t 73) (.t 74) (.t 75))]))) .skip)) 
  (.seq 
  (.seq (.draw [o 76 (.load (some 4) (.t 5)), m 78 10, ⟨(some 79), .load (some 3) (.t 11), none, [5]⟩, ⟨(some 84), .load (some 4) (.t 7), none, [5, 9]⟩, o 77 (.call (.fn 275) [(.t 76)]), o 80 (.call (.fn 276) [(.t 79)]), o 81 (.bin .sub (.t 80) (.c (.i .i64 1))), o 82 (.bin .mul (.t 78) (.t 81)), o 83 (.bin .add (.t 77) (.t 82)), o 85 (.call (.fn 275) [(.t 84)]), o 86 (.bin .neq (.t 83) (.t 85))]) (.cond (.t 86) 
  (.seq (.region [o 4 (.mv (.c (.i .i64 70)))]) .ret) .skip)) (.region [o 87 (.load (some 4) (.t 5)), m 88 8, o 89 (.load (some 3) (.t 11)), o 90 (.call (.fn 277) [(.t 87), (.t 88), (.t 89)]), u (.store (some 4) (.t 5) (.t 90))])))) .skip))) 
  (.seq 
  (.seq (.region [o 91 (.load (some 4) (.t 5)), o 92 (.load (some 4) (.t 7)), o 93 (.call (.fn 268) [(.t 91), (.t 92), (.c .nilsl)]), o 94 (.not (.t 93))]) (.cond (.t 94) 
  (.seq (.region [o 4 (.mv (.c (.i .i64 70)))]) .ret) .skip)) 
  (.seq (.region [o 4 (.mv (.c (.i .i64 0)))]) .ret)))))))))))⟩
def c197 : AFunc := ⟨2, 6, [(4, none)], (some (.seq (.region [o 2 (.box (.t 0)), o 3 (.box (.t 1)), o 4 (.mv (.c .nf))]) (.seq (.region [o 5 (.mkFunc (.func 278) [] [(.t 2), (.t 3)]), m 4 5]) .ret)))⟩
def c198 : AFunc := ⟨1, 61, [(2, (some (some 2)))], (some 
  (.seq (.region [o 2 (.alloc (.ag [.nilsl, .nilsl]))]) 
  (.seq (.region [o 3 (.alloc (.ag [.nilsl, .nilsl]))]) 
  (.seq 
  (.seq (.region [m 8 0, o 9 (.nilCheck (.t 8)), o 10 (.fieldAddr 0 none (.t 9)), o 11 (.load none (.t 10)), o 12 (.call (.fn 280) [(.t 11)]), o 13 (.call (.fn 113) [(.t 12)]), o 14 (.len 1 (.t 13)), o 15 (.mv (.c (.i .i64 0)))]) (.block 0 (.loop 
  (.seq (.region [o 16 (.bin .lss (.t 15) (.t 14))]) 
  (.seq (.cond (.t 16) .skip (.exit 0)) 
  (.seq (.block 1 
  (.seq (.region [o 17 (.idxSl none (.t 13) (.t 15)), o 18 (.load none (.t 17)), m 5 18]) (.draw [o 19 (.fieldAddr 0 none (.t 3)), ⟨(some 20), .load none (.t 19), none, [12]⟩, m 21 5, m 22 0, o 23 (.nilCheck (.t 22)), o 24 (.fieldAddr 0 none (.t 23)), o 25 (.load none (.t 24)), m 26 5, o 27 (.lookup (.inl 1) (.t 25) (.t 26) (.ag [(.i .u8 0), (.s []), .nilsl, .nilsl]) false), o 28 (.call (.fn 37) [(.t 27)]), o 29 (.build [(.s []), (.i .u8 0), (.s []), .nilsl, .nilsl] [(0, 1, (.t 21)), (1, 4, (.t 28))]), o 30 (.buildSlice (some 5) 1 [(.s []), (.i .u8 0), (.s []), .nilsl, .nilsl] [(0, (.t 29))]), o 31 (.append (some 5) 88 (.t 20) (.t 30)), o 32 (.fieldAddr 0 none (.t 3)), u (.store none (.t 32) (.t 31))]))) (.region [o 33 (.bin .add (.t 15) (.c (.i .i64 1))), m 15 33]))))))) 
  (.seq 
  (.seq (.region [m 34 0, o 35 (.nilCheck (.t 34)), o 36 (.fieldAddr 1 none (.t 35)), o 37 (.load none (.t 36)), o 38 (.call (.fn 281) [(.t 37)]), o 39 (.call (.fn 113) [(.t 38)]), o 40 (.len 1 (.t 39)), o 41 (.mv (.c (.i .i64 0)))]) (.block 2 (.loop 
  (.seq (.region [o 42 (.bin .lss (.t 41) (.t 40))]) 
  (.seq (.cond (.t 42) .skip (.exit 2)) 
  (.seq (.block 3 
  (.seq (.region [o 43 (.idxSl none (.t 39) (.t 41)), o 44 (.load none (.t 43)), m 7 44]) (.draw [o 45 (.fieldAddr 1 none (.t 3)), ⟨(some 46), .load none (.t 45), none, [12]⟩, m 47 7, m 48 0, o 49 (.nilCheck (.t 48)), o 50 (.fieldAddr 1 none (.t 49)), o 51 (.load none (.t 50)), m 52 7, o 53 (.lookup (.inl 1) (.t 51) (.t 52) (.ag [(.b false), (.s []), .nilsl]) false), o 54 (.call (.fn 282) [(.t 53)]), o 55 (.build [(.s []), (.b false), (.s []), .nilsl] [(0, 1, (.t 47)), (1, 3, (.t 54))]), o 56 (.buildSlice (some 4) 1 [(.s []), (.b false), (.s []), .nilsl] [(0, (.t 55))]), o 57 (.append (some 4) 64 (.t 46) (.t 56)), o 58 (.fieldAddr 1 none (.t 3)), u (.store none (.t 58) (.t 57))]))) (.region [o 59 (.bin .add (.t 41) (.c (.i .i64 1))), m 41 59]))))))) 
  (.seq (.region [o 60 (.load (some 2) (.t 3)), u (.store (some 2) (.t 2) (.t 60))]) .ret))))))⟩
def c199 : AFunc := ⟨3, 9, [], (some 
  (.seq (.region [o 3 (.box (.t 0)), o 4 (.box (.t 1))]) (.region [o 5 (.load none (.t 2)), o 6 (.mkFunc (.func 200) [] [(.t 4), (.t 3)]), o 7 (.buildSlice none 1 [.nf] [(0, (.t 6))]), o 8 (.append none 8 (.t 5) (.t 7)), u (.store none (.t 2) (.t 8))])))⟩
def c200 : AFunc := ⟨2, 15, [(2, none), (3, none), (4, none)], (some 
  (.seq (.region [o 2 (.mv (.c (.i .u8 0))), o 3 (.mv (.c (.i .i64 0))), o 4 (.mv (.c (.b false)))]) 
  (.seq (.region [o 8 (.load none (.t 0)), o 9 (.call (.val (.t 8)) []), m 7 9, o 10 (.extract (.t 7) 0), o 11 (.extract (.t 7) 1), m 5 10, m 6 11]) 
  (.seq (.region [o 12 (.load none (.t 1)), m 13 5, m 14 6, m 2 12, m 3 13, m 4 14]) .ret))))⟩
def c201 : AFunc := ⟨2, 24, [(4, (some (some 3))), (5, none)], (some 
  (.seq (.region [o 2 (.box (.t 0)), o 4 (.alloc (.ag [(.b false), (.s []), .nilsl])), o 5 (.mv (.c (.b false)))]) 
  (.seq 
  (.seq (.region [o 8 (.fieldAddr 1 none (.t 2)), o 9 (.load none (.t 8)), o 10 (.len 1 (.t 9)), o 11 (.mv (.c (.i .i64 0)))]) (.block 0 (.loop 
  (.seq (.region [o 12 (.bin .lss (.t 11) (.t 10))]) 
  (.seq (.cond (.t 12) .skip (.exit 0)) 
  (.seq (.block 1 
  (.seq (.region [o 13 (.idxSl (some 4) (.t 9) (.t 11)), o 14 (.load (some 4) (.t 13)), o 7 (.alloc (.ag [(.s []), (.b false), (.s []), .nilsl])), u (.store (some 4) (.t 7) (.t 14))]) 
  (.seq (.region [o 15 (.fieldAddr 0 none (.t 7)), o 16 (.load none (.t 15)), m 17 1, o 18 (.bin .eql (.t 16) (.t 17))]) (.cond (.t 18) 
  (.seq (.region [o 19 (.fieldAddr 1 (some 3) (.t 7)), o 20 (.load (some 3) (.t 19)), o 21 (.call (.fn 282) [(.t 20)]), u (.store (some 3) (.t 4) (.t 21)), o 5 (.mv (.c (.b true)))]) .ret) .skip)))) (.region [o 22 (.bin .add (.t 11) (.c (.i .i64 1))), m 11 22]))))))) 
  (.seq (.region [o 23 (.build [(.b false), (.s []), .nilsl] []), u (.store (some 3) (.t 4) (.t 23)), o 5 (.mv (.c (.b false)))]) .ret))))⟩
def c212 : AFunc := ⟨2, 12, [(2, none), (3, none)], (some 
  (.seq (.region [o 2 (.mv (.c (.i .i64 0))), o 3 (.mv (.c (.b false)))]) 
  (.seq (.draw [o 4 (.fieldAddr 6 none (.t 0)), o 5 (.load none (.t 4)), m 6 5, ⟨(some 7), .fieldAddr 5 none (.t 1), (some (6, true)), []⟩, ⟨(some 8), .load none (.t 7), (some (6, true)), []⟩, ⟨(some 9), .len 1 (.t 8), (some (6, true)), []⟩, ⟨(some 10), .bin .gtr (.t 9) (.c (.i .i64 0)), (some (6, true)), []⟩, o 11 (.pick (.t 6) (.t 10) (.c (.b false))), o 2 (.mv (.c (.i .i64 0))), m 3 11]) .ret)))⟩
def c213 : AFunc := ⟨1, 5, [(1, none)], (some (.seq (.region [o 1 (.mv (.c (.b false)))]) (.seq (.region [o 2 (.load none (.t 0)), o 3 (.call (.fn 214) [(.t 2)]), o 4 (.not (.t 3)), m 1 4]) .ret)))⟩
def c214 : AFunc := ⟨1, 107, [(2, none)], (some 
  (.seq (.region [o 2 (.mv (.c (.b false)))]) 
  (.seq 
  (.seq (.region [m 8 0, o 9 (.nilCheck (.t 8)), o 10 (.fieldAddr 0 none (.t 9)), o 11 (.load none (.t 10)), o 12 (.bin .eql (.t 11) (.c (.s []))), m 13 12, ⟨(some 14), .mv (.t 0), (some (13, false)), []⟩, ⟨(some 15), .nilCheck (.t 14), (some (13, false)), []⟩, ⟨(some 16), .fieldAddr 0 none (.t 15), (some (13, false)), []⟩, ⟨(some 17), .load none (.t 16), (some (13, false)), []⟩, ⟨(some 18), .bin .eql (.t 17) (.c (.s [63])), (some (13, false)), []⟩, o 19 (.pick (.t 13) (.c (.b true)) (.t 18))]) (.cond (.t 19) 
  (.seq 
  (.seq (.region [m 20 0, o 21 (.nilCheck (.t 20)), o 22 (.fieldAddr 6 none (.t 21)), o 23 (.load none (.t 22)), o 24 (.len 1 (.t 23)), o 25 (.bin .gtr (.t 24) (.c (.i .i64 0))), m 26 25, ⟨(some 27), .mv (.t 0), (some (26, false)), []⟩, ⟨(some 28), .nilCheck (.t 27), (some (26, false)), []⟩, ⟨(some 29), .fieldAddr 7 none (.t 28), (some (26, false)), []⟩, ⟨(some 30), .load none (.t 29), (some (26, false)), []⟩, ⟨(some 31), .len 1 (.t 30), (some (26, false)), []⟩, ⟨(some 32), .bin .gtr (.t 31) (.c (.i .i64 0)), (some (26, false)), []⟩, o 33 (.pick (.t 26) (.c (.b true)) (.t 32))]) (.cond (.t 33) 
  (.seq (.region [o 2 (.mv (.c (.b false)))]) .ret) .skip)) 
  (.seq 
  (.seq (.region [m 34 0, o 35 (.nilCheck (.t 34)), o 36 (.fieldAddr 0 none (.t 35)), o 37 (.load none (.t 36)), o 38 (.bin .eql (.t 37) (.c (.s [63])))]) (.cond (.t 38) 
  (.seq (.region [m 39 0, o 40 (.nilCheck (.t 39)), o 41 (.fieldAddr 5 none (.t 40)), o 42 (.load none (.t 41)), o 43 (.bin .eql (.t 42) (.c (.i .i64 0))), m 2 43]) .ret) .skip)) 
  (.seq (.region [m 44 0, o 45 (.nilCheck (.t 44)), o 46 (.fieldAddr 5 none (.t 45)), o 47 (.load none (.t 46)), o 48 (.bin .geq (.t 47) (.c (.i .i64 1))), m 49 48, ⟨(some 50), .mv (.t 0), (some (49, true)), []⟩, ⟨(some 51), .nilCheck (.t 50), (some (49, true)), []⟩, ⟨(some 52), .fieldAddr 5 none (.t 51), (some (49, true)), []⟩, ⟨(some 53), .load none (.t 52), (some (49, true)), []⟩, ⟨(some 54), .bin .leq (.t 53) (.c (.i .i64 999)), (some (49, true)), []⟩, o 55 (.pick (.t 49) (.t 54) (.c (.b false))), m 2 55]) .ret))) .skip)) 
  (.seq 
  (.seq (.draw [m 56 0, o 57 (.nilCheck (.t 56)), o 58 (.fieldAddr 5 none (.t 57)), o 59 (.load none (.t 58)), o 60 (.bin .neq (.t 59) (.c (.i .i64 0))), m 61 60, ⟨(some 62), .mv (.t 0), (some (61, false)), []⟩, ⟨(some 63), .nilCheck (.t 62), (some (61, false)), []⟩, ⟨(some 64), .fieldAddr 7 none (.t 63), (some (61, false)), []⟩, ⟨(some 65), .load none (.t 64), (some (61, false)), []⟩, ⟨(some 66), .len 1 (.t 65), (some (61, false)), []⟩, ⟨(some 67), .mv (.t 0), (some (61, false)), []⟩, ⟨(some 68), .nilCheck (.t 67), (some (61, false)), []⟩, ⟨(some 69), .fieldAddr 6 none (.t 68), (some (61, false)), []⟩, ⟨(some 70), .load none (.t 69), (some (61, false)), []⟩, ⟨(some 71), .len 1 (.t 70), (some (61, false)), []⟩, ⟨(some 72), .bin .neq (.t 66) (.t 71), (some (61, false)), []⟩, o 73 (.pick (.t 61) (.c (.b true)) (.t 72))]) (.cond (.t 73) 
  (.seq (.region [o 2 (.mv (.c (.b false)))]) .ret) .skip)) 
  (.seq 
  (.seq (.region [m 74 0, o 75 (.nilCheck (.t 74)), o 76 (.fieldAddr 7 none (.t 75)), o 77 (.load none (.t 76)), o 78 (.len 1 (.t 77)), o 79 (.mv (.c (.i .i64 0)))]) (.block 0 (.loop 
  (.seq (.region [o 80 (.bin .lss (.t 79) (.t 78))]) 
  (.seq (.cond (.t 80) .skip (.exit 0)) 
  (.seq (.block 1 
  (.seq (.region [o 81 (.idxSl none (.t 77) (.t 79)), o 82 (.load none (.t 81)), m 4 82]) 
  (.seq (.region [o 83 (.mkMap), m 5 83]) 
  (.seq (.region [m 84 4, o 85 (.len 1 (.t 84)), o 86 (.mv (.c (.i .i64 0)))]) (.block 2 (.loop 
  (.seq (.region [o 87 (.bin .lss (.t 86) (.t 85))]) 
  (.seq (.cond (.t 87) .skip (.exit 2)) 
  (.seq (.block 3 
  (.seq (.region [o 88 (.idxSl none (.t 84) (.t 86)), o 89 (.load none (.t 88)), m 7 89]) 
  (.seq 
  (.seq (.region [m 90 7, o 91 (.bin .lss (.t 90) (.c (.i .i64 0))), m 92 91, ⟨(some 93), .mv (.t 7), (some (92, false)), []⟩, ⟨(some 94), .bin .gtr (.t 93) (.c (.i .i64 999)), (some (92, false)), []⟩, o 95 (.pick (.t 92) (.c (.b true)) (.t 94)), m 96 95, ⟨(some 97), .mv (.t 5), (some (96, false)), []⟩, ⟨(some 98), .mv (.t 7), (some (96, false)), []⟩, ⟨(some 99), .lookup (.inl 0) (.t 97) (.t 98) (.b false) false, (some (96, false)), []⟩, o 100 (.pick (.t 96) (.c (.b true)) (.t 99))]) (.cond (.t 100) 
  (.seq (.region [o 2 (.mv (.c (.b false)))]) .ret) .skip)) (.region [m 101 5, m 102 7, m 103 7, o 104 (.bin .neq (.t 103) (.c (.i .i64 0))), u (.mapUpd (.inl 0) (.t 101) (.t 102) (.t 104))])))) (.region [o 105 (.bin .add (.t 86) (.c (.i .i64 1))), m 86 105])))))))))) (.region [o 106 (.bin .add (.t 79) (.c (.i .i64 1))), m 79 106]))))))) 
  (.seq (.region [o 2 (.mv (.c (.b true)))]) .ret))))))⟩
def c215 : AFunc := ⟨2, 13, [(2, none)], (some 
  (.seq (.region [o 2 (.mv (.c (.b false)))]) 
  (.seq (.draw [o 3 (.load none (.t 0)), o 4 (.nilCheck (.t 3)), o 5 (.fieldAddr 0 (some 5) (.t 4)), o 6 (.load (some 5) (.t 5)), o 7 (.load none (.t 1)), o 8 (.nilCheck (.t 7)), o 9 (.fieldAddr 1 (some 4) (.t 8)), o 10 (.load (some 4) (.t 9)), o 11 (.call (.fn 60) [(.t 6), (.t 10)]), o 12 (.not (.t 11)), m 2 12]) .ret)))⟩
def c216 : AFunc := ⟨2, 25, [(2, none)], (some 
  (.seq (.region [o 2 (.mv (.c (.b false)))]) 
  (.seq (.draw [o 3 (.load none (.t 0)), o 4 (.nilCheck (.t 3)), o 5 (.fieldAddr 0 none (.t 4)), o 6 (.load none (.t 5)), o 7 (.bin .eql (.t 6) (.c (.s []))), m 8 7, ⟨(some 9), .load none (.t 0), (some (8, true)), []⟩, ⟨(some 10), .nilCheck (.t 9), (some (8, true)), []⟩, ⟨(some 11), .fieldAddr 1 (some 4) (.t 10), (some (8, true)), []⟩, ⟨(some 12), .load (some 4) (.t 11), (some (8, true)), []⟩, ⟨(some 13), .load none (.t 1), (some (8, true)), []⟩, ⟨(some 14), .nilCheck (.t 13), (some (8, true)), []⟩, ⟨(some 15), .fieldAddr 6 none (.t 14), (some (8, true)), []⟩, ⟨(some 16), .load none (.t 15), (some (8, true)), []⟩, ⟨(some 17), .load none (.t 0), (some (8, true)), []⟩, ⟨(some 18), .nilCheck (.t 17), (some (8, true)), []⟩, ⟨(some 19), .fieldAddr 5 none (.t 18), (some (8, true)), []⟩, ⟨(some 20), .load none (.t 19), (some (8, true)), []⟩, ⟨(some 21), .lookup (.inl 0) (.t 16) (.t 20) (.ag [(.i .u8 0), (.s []), .nilsl, .nilsl]) false, (some (8, true)), []⟩, ⟨(some 22), .call (.fn 64) [(.t 12), (.t 21)], (some (8, true)), []⟩, ⟨(some 23), .not (.t 22), (some (8, true)), []⟩, o 24 (.pick (.t 8) (.t 23) (.c (.b false))), m 2 24]) .ret)))⟩
def c217 : AFunc := ⟨1, 7, [(1, none)], (some 
  (.seq (.region [o 1 (.mv (.c (.b false)))]) 
  (.seq (.region [o 2 (.load none (.t 0)), o 3 (.nilCheck (.t 2)), o 4 (.fieldAddr 0 none (.t 3)), o 5 (.load none (.t 4)), o 6 (.bin .eql (.t 5) (.c (.s [63]))), m 1 6]) .ret)))⟩
def c218 : AFunc := ⟨2, 8, [(2, none)], (some 
  (.seq (.region [o 2 (.mv (.c (.b false)))]) 
  (.seq (.region [o 3 (.load none (.t 0)), m 4 3, ⟨(some 5), .load none (.t 1), (some (4, true)), []⟩, ⟨(some 6), .not (.t 5), (some (4, true)), []⟩, o 7 (.pick (.t 4) (.t 6) (.c (.b false))), m 2 7]) .ret)))⟩
def c219 : AFunc := ⟨6, 26, [(6, none)], (some 
  (.seq (.region [o 6 (.mv (.c (.b false)))]) 
  (.seq 
  (.seq (.region [o 8 (.load none (.t 0)), o 9 (.not (.t 8))]) (.cond (.t 9) 
  (.seq (.region [o 6 (.mv (.c (.b false)))]) .ret) .skip)) 
  (.seq (.region [o 7 (.mv (.c (.i .i64 0)))]) 
  (.seq (.draw [⟨(some 11), .load (some 6) (.t 1), none, [9]⟩, ⟨(some 12), .load none (.t 2), none, [9]⟩, o 13 (.nilCheck (.t 12)), o 14 (.fieldAddr 1 (some 4) (.t 13)), ⟨(some 15), .load (some 4) (.t 14), none, [9]⟩, o 16 (.load none (.t 3)), o 17 (.load none (.t 2)), o 18 (.load none (.t 4)), o 19 (.call (.fn 220) [(.t 16), (.t 17), (.t 18)]), o 20 (.call (.fn 65) [(.t 11), (.t 15), (.t 19)]), m 10 20, o 21 (.extract (.t 10) 0), o 22 (.extract (.t 10) 1), o 23 (.extract (.t 10) 2), u (.store (some 3) (.t 5) (.t 22)), m 7 23]) 
  (.seq (.region [m 24 7, o 25 (.bin .neq (.t 24) (.c (.i .i64 0))), m 6 25]) .ret))))))⟩
def c220 : AFunc := ⟨3, 107, [(6, none)], (some 
  (.seq (.region [o 6 (.mv (.c .nilsl))]) 
  (.seq (.region [o 7 (.mv (.c .nilsl))]) 
  (.seq 
  (.seq (.region [m 16 1, o 17 (.nilCheck (.t 16)), o 18 (.fieldAddr 6 none (.t 17)), o 19 (.load none (.t 18)), o 20 (.len 1 (.t 19)), o 21 (.mv (.c (.i .i64 0)))]) (.block 0 (.loop 
  (.seq (.region [o 22 (.bin .lss (.t 21) (.t 20))]) 
  (.seq (.cond (.t 22) .skip (.exit 0)) 
  (.seq (.block 1 
  (.seq (.region [m 23 21, o 24 (.idxSl (some 8) (.t 19) (.t 21)), o 25 (.load (some 8) (.t 24)), o 9 (.alloc (.ag [(.s []), (.i .u8 0), (.s []), .nilsl, .nilsl, (.i .i64 0), .nilsl, .nilsl])), m 8 23, u (.store (some 8) (.t 9) (.t 25))]) 
  (.seq (.region [o 26 (.fieldAddr 1 (some 4) (.t 9)), o 27 (.load (some 4) (.t 26)), o 28 (.build [(.i .u8 0), (.s []), .nilsl, .nilsl, .nilsl, .nilsl] [(0, 4, (.t 27))]), o 10 (.alloc (.ag [(.i .u8 0), (.s []), .nilsl, .nilsl, .nilsl, .nilsl])), u (.store (some 6) (.t 10) (.t 28))]) 
  (.seq 
  (.seq (.region [m 29 1, o 30 (.nilCheck (.t 29)), o 31 (.fieldAddr 7 none (.t 30)), o 32 (.load none (.t 31)), m 33 8, o 34 (.idxSl none (.t 32) (.t 33)), o 35 (.load none (.t 34)), o 36 (.len 1 (.t 35)), o 37 (.mv (.c (.i .i64 0)))]) (.block 2 (.loop 
  (.seq (.region [o 38 (.bin .lss (.t 37) (.t 36))]) 
  (.seq (.cond (.t 38) .skip (.exit 2)) 
  (.seq (.block 3 
  (.seq (.region [o 39 (.idxSl none (.t 35) (.t 37)), o 40 (.load none (.t 39)), m 12 40]) 
  (.seq (.region [m 41 12, o 42 (.bin .neq (.t 41) (.c (.i .i64 0))), m 43 42, ⟨(some 44), .mv (.t 2), (some (43, true)), []⟩, ⟨(some 45), .mv (.t 8), (some (43, true)), []⟩, ⟨(some 46), .idxSl none (.t 44) (.t 45), (some (43, true)), []⟩, ⟨(some 47), .load none (.t 46), (some (43, true)), []⟩, ⟨(some 48), .mv (.t 12), (some (43, true)), []⟩, ⟨(some 49), .lookup (.inl 0) (.t 47) (.t 48) (.b false) false, (some (43, true)), []⟩, o 50 (.pick (.t 43) (.t 49) (.c (.b false))), o 51 (.build [(.b false), (.i .u8 0), (.s []), .nilsl, .nilsl] [(0, 1, (.t 50))]), o 13 (.alloc (.ag [(.b false), (.i .u8 0), (.s []), .nilsl, .nilsl])), u (.store (some 5) (.t 13) (.t 51))]) 
  (.seq 
  (.seq (.region [o 52 (.fieldAddr 0 none (.t 13)), o 53 (.load none (.t 52))]) (.cond (.t 53) (.region [m 54 0, o 55 (.nilCheck (.t 54)), o 56 (.fieldAddr 6 none (.t 55)), o 57 (.load none (.t 56)), m 58 12, o 59 (.lookup (.inl 0) (.t 57) (.t 58) (.ag [(.i .u8 0), (.s []), .nilsl, .nilsl]) false), o 60 (.fieldAddr 1 (some 4) (.t 13)), u (.store (some 4) (.t 60) (.t 59))]) .skip)) (.region [o 61 (.fieldAddr 4 none (.t 10)), o 62 (.load none (.t 61)), o 63 (.load (some 5) (.t 13)), o 64 (.buildSlice (some 5) 1 [(.b false), (.i .u8 0), (.s []), .nilsl, .nilsl] [(0, (.t 63))]), o 65 (.append (some 5) 80 (.t 62) (.t 64)), o 66 (.fieldAddr 4 none (.t 10)), u (.store none (.t 66) (.t 65))]))))) (.region [o 67 (.bin .add (.t 37) (.c (.i .i64 1))), m 37 67]))))))) 
  (.seq 
  (.seq (.region [m 68 2, m 69 8, o 70 (.idxSl none (.t 68) (.t 69)), o 71 (.load none (.t 70)), o 72 (.call (.fn 109) [(.t 71)]), o 73 (.call (.fn 108) [(.t 72)]), o 74 (.len 1 (.t 73)), o 75 (.mv (.c (.i .i64 0)))]) (.block 4 (.loop 
  (.seq (.region [o 76 (.bin .lss (.t 75) (.t 74))]) 
  (.seq (.cond (.t 76) .skip (.exit 4)) 
  (.seq (.block 5 
  (.seq (.region [o 77 (.idxSl none (.t 73) (.t 75)), o 78 (.load none (.t 77)), m 15 78]) 
  (.seq (.region [m 79 1, o 80 (.nilCheck (.t 79)), o 81 (.fieldAddr 7 none (.t 80)), o 82 (.load none (.t 81)), m 83 8, o 84 (.idxSl none (.t 82) (.t 83)), o 85 (.load none (.t 84)), m 86 15, o 87 (.call (.fn 140) [(.t 85), (.t 86)]), o 88 (.not (.t 87))]) (.cond (.t 88) (.draw [o 89 (.fieldAddr 5 none (.t 10)), ⟨(some 90), .load none (.t 89), none, [9]⟩, m 91 0, o 92 (.nilCheck (.t 91)), o 93 (.fieldAddr 6 none (.t 92)), ⟨(some 94), .load none (.t 93), none, [9]⟩, m 95 15, ⟨(some 96), .lookup (.inl 0) (.t 94) (.t 95) (.ag [(.i .u8 0), (.s []), .nilsl, .nilsl]) false, none, [9]⟩, o 97 (.buildSlice (some 4) 1 [(.i .u8 0), (.s []), .nilsl, .nilsl] [(0, (.t 96))]), o 98 (.append (some 4) 72 (.t 90) (.t 97)), o 99 (.fieldAddr 5 none (.t 10)), u (.store none (.t 99) (.t 98))]) .skip)))) (.region [o 100 (.bin .add (.t 75) (.c (.i .i64 1))), m 75 100]))))))) (.region [m 101 7, o 102 (.load (some 6) (.t 10)), o 103 (.buildSlice (some 6) 1 [(.i .u8 0), (.s []), .nilsl, .nilsl, .nilsl, .nilsl] [(0, (.t 102))]), o 104 (.append (some 6) 120 (.t 101) (.t 103)), m 7 104])))))) (.region [o 105 (.bin .add (.t 21) (.c (.i .i64 1))), m 21 105]))))))) 
  (.seq (.region [m 106 7, m 6 106]) .ret)))))⟩
def c221 : AFunc := ⟨2, 19, [(4, none)], (some 
  (.seq (.region [o 4 (.mv (.c .nilsl))]) 
  (.seq 
  (.seq (.region [m 5 1, m 6 0, o 7 (.nilCheck (.t 6)), o 8 (.fieldAddr 7 none (.t 7)), o 9 (.load none (.t 8)), o 10 (.len 1 (.t 9)), o 11 (.bin .lss (.t 5) (.t 10))]) (.cond (.t 11) 
  (.seq (.region [m 12 0, o 13 (.nilCheck (.t 12)), o 14 (.fieldAddr 7 none (.t 13)), o 15 (.load none (.t 14)), m 16 1, o 17 (.idxSl none (.t 15) (.t 16)), o 18 (.load none (.t 17)), m 4 18]) .ret) .skip)) 
  (.seq (.region [o 4 (.mv (.c .nilsl))]) .ret))))⟩
def c222 : AFunc := ⟨2, 13, [(4, none)], (some 
  (.seq (.region [o 2 (.box (.t 0)), o 4 (.mv (.c .nilsl))]) 
  (.seq 
  (.seq (.region [m 6 1]) (.block 0 (.rangeFunc (.t 6) [7] (.region [m 5 7]) (.block 1 (.region [o 8 (.load none (.t 2)), m 9 5, o 10 (.buildSlice none 1 [(.i .i64 0)] [(0, (.t 9))]), o 11 (.append none 8 (.t 8) (.t 10)), u (.store none (.t 2) (.t 11))]))))) 
  (.seq (.region [o 12 (.load none (.t 2)), m 4 12]) .ret))))⟩
end Go.Lyc.T
