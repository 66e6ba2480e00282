/-
  The code of functions of the program, as the abstract executor reads it. No conditions: definitions and closed facts.
-/
import Derived.Test.YtbifkbdapfadfaaGreatDoorEng9
noncomputable section
namespace Go.Lyc.T
open Go.Lyc
set_option maxRecDepth 100000
def m (d x : Nat) : AOper := ⟨some d, .mv (.t x), none, []⟩
def o (d : Nat) (op : AOp) : AOper := ⟨some d, op, none, []⟩
def u (op : AOp) : AOper := ⟨none, op, none, []⟩
def c3 : AFunc := ⟨0, 66, [(0, none)], (some 
  (.seq (.region [o 0 (.mv (.c (.b false)))]) 
  (.seq 
  (.seq (.region [o 9 (.call (.fn 5) []), o 10 (.len 1 (.t 9)), o 11 (.mv (.c (.i .i64 0)))]) (.block 0 (.loop 
  (.seq (.region [o 12 (.bin .lss (.t 11) (.t 10))]) 
  (.seq (.cond (.t 12) .skip (.exit 0)) 
  (.seq (.block 1 
  (.seq (.region [o 13 (.idxSl none (.t 9) (.t 11)), o 14 (.load none (.t 13)), m 2 14]) 
  (.seq (.region [m 16 2, o 17 (.call (.fn 6) [(.t 16)]), m 15 17, o 18 (.extract (.t 15) 0), o 19 (.extract (.t 15) 1), o 3 (.alloc (.ag [(.s []), (.i .u32 0), (.i .u8 0), (.i .u8 0), .nilsl])), u (.store (some 5) (.t 3) (.t 18)), m 4 19]) 
  (.seq 
  (.seq (.region [m 20 4, o 21 (.bin .neq (.t 20) (.c (.i .i64 0))), m 22 21, ⟨(some 23), .load (some 5) (.t 3), (some (22, false)), []⟩, ⟨(some 24), .call (.fn 7) [(.t 23)], (some (22, false)), []⟩, ⟨(some 25), .not (.t 24), (some (22, false)), []⟩, o 26 (.pick (.t 22) (.c (.b true)) (.t 25))]) (.cond (.t 26) 
  (.seq (.region [o 0 (.mv (.c (.b false)))]) .ret) .skip)) 
  (.seq (.region [o 27 (.fieldAddr 4 none (.t 3)), o 28 (.load none (.t 27)), o 29 (.len 1 (.t 28)), o 30 (.mv (.c (.i .i64 0)))]) (.block 2 (.loop 
  (.seq (.region [o 31 (.bin .lss (.t 30) (.t 29))]) 
  (.seq (.cond (.t 31) .skip (.exit 2)) 
  (.seq (.block 3 
  (.seq (.region [o 32 (.idxSl (some 6) (.t 28) (.t 30)), o 33 (.load (some 6) (.t 32)), o 6 (.alloc (.ag [(.s []), .nilsl, (.i .u8 0), (.s []), .nilsl, .nilsl])), u (.store (some 6) (.t 6) (.t 33))]) 
  (.seq 
  (.seq (.region [o 34 (.fieldAddr 0 none (.t 6)), o 35 (.load none (.t 34)), o 36 (.len 0 (.t 35)), o 37 (.bin .gtr (.t 36) (.c (.i .i64 3))), m 38 37, ⟨(some 39), .fieldAddr 0 none (.t 6), (some (38, true)), []⟩, ⟨(some 40), .load none (.t 39), (some (38, true)), []⟩, ⟨(some 41), .sliceStr (.t 40) none (some (.c (.i .i64 3))), (some (38, true)), []⟩, ⟨(some 42), .bin .eql (.t 41) (.c (.s [97, 108, 108])), (some (38, true)), []⟩, ⟨(some 43), .mv (.t 42), (some (38, true)), []⟩, ⟨(some 44), .fieldAddr 0 none (.t 6), (some (43, false)), []⟩, ⟨(some 45), .load none (.t 44), (some (43, false)), []⟩, ⟨(some 46), .sliceStr (.t 45) none (some (.c (.i .i64 4))), (some (43, false)), []⟩, ⟨(some 47), .bin .eql (.t 46) (.c (.s [115, 111, 109, 101])), (some (43, false)), []⟩, ⟨(some 48), .pick (.t 43) (.c (.b true)) (.t 47), (some (38, true)), []⟩, o 49 (.pick (.t 38) (.t 48) (.c (.b false)))]) (.cond (.t 49) (.exit 3) .skip)) 
  (.seq (.region [o 7 (.mv (.c (.i .i64 3)))]) 
  (.seq 
  (.seq (.region [o 50 (.load (some 6) (.t 6)), o 51 (.call (.fn 8) [(.t 50)]), o 52 (.bin .gtr (.t 51) (.c (.i .i64 3)))]) (.cond (.t 52) (.region [o 7 (.mv (.c (.i .i64 2)))]) .skip)) 
  (.seq (.region [o 8 (.mv (.c (.i .i64 1)))]) (.block 4 (.loop 
  (.seq 
  (.seq (.region [m 53 8, m 54 7, o 55 (.bin .leq (.t 53) (.t 54))]) (.cond (.t 55) .skip (.exit 4))) 
  (.seq (.block 5 
  (.seq (.region [o 58 (.load (some 5) (.t 3)), o 59 (.load (some 6) (.t 6)), m 60 8, o 61 (.call (.fn 9) [(.t 58), (.t 59), (.t 60)]), o 62 (.not (.t 61))]) (.cond (.t 62) 
  (.seq (.region [o 0 (.mv (.c (.b false)))]) .ret) .skip))) (.region [m 56 8, o 57 (.bin .add (.t 56) (.c (.i .i64 1))), m 8 57]))))))))))) (.region [o 63 (.bin .add (.t 30) (.c (.i .i64 1))), m 30 63]))))))))))) (.region [o 64 (.bin .add (.t 11) (.c (.i .i64 1))), m 11 64]))))))) 
  (.seq (.region [o 65 (.call (.fn 10) []), m 0 65]) .ret))))⟩
def c5 : AFunc := ⟨0, 2, [(0, none)], (some 
  (.seq (.region [o 0 (.mv (.c .nilsl))]) 
  (.seq (.region [o 1 (.buildSlice none 8 [(.s [])] [(0, (.c (.s [75, 49]))), (1, (.c (.s [74]))), (2, (.c (.s [75, 50]))), (3, (.c (.s [75]))), (4, (.c (.s [84]))), (5, (.c (.s [83, 52]))), (6, (.c (.s [83, 53]))), (7, (.c (.s [76])))]), m 0 1]) .ret)))⟩
def c6 : AFunc := ⟨1, 77, [(2, (some (some 5))), (3, none)], (some 
  (.seq (.region [o 2 (.alloc (.ag [(.s []), (.i .u32 0), (.i .u8 0), (.i .u8 0), .nilsl])), o 3 (.mv (.c (.i .i64 0)))]) 
  (.seq (.region [o 6 (.call (.fn 15) []), o 7 (.call (.fn 16) []), m 4 6, m 5 7]) 
  (.seq 
  (.seq (.region [m 8 0]) (.block 0 
  (.seq (.region [o 10 (.bin .eql (.t 8) (.c (.s [75, 49]))), m 9 10]) (.cond (.t 9) 
  (.seq (.region [m 11 0, m 12 4, m 13 5, o 14 (.buildSlice none 2 [.nilsl] [(0, (.t 12)), (1, (.t 13))]), o 15 (.call (.fn 17) [(.t 11), (.c (.i .u8 1)), (.c (.i .u8 0)), (.t 14)]), u (.store (some 5) (.t 2) (.t 15)), o 3 (.mv (.c (.i .i64 0)))]) .ret) 
  (.seq (.region [o 17 (.bin .eql (.t 8) (.c (.s [74]))), m 16 17]) (.cond (.t 16) 
  (.seq (.region [m 18 0, m 19 4, o 20 (.buildSlice none 1 [.nilsl] [(0, (.t 19))]), o 21 (.call (.fn 17) [(.t 18), (.c (.i .u8 3)), (.c (.i .u8 0)), (.t 20)]), u (.store (some 5) (.t 2) (.t 21)), o 3 (.mv (.c (.i .i64 0)))]) .ret) 
  (.seq (.region [o 23 (.bin .eql (.t 8) (.c (.s [75, 50]))), m 22 23]) (.cond (.t 22) 
  (.seq (.region [m 24 0, m 25 4, m 26 5, o 27 (.call (.fn 18) []), o 28 (.buildSlice none 3 [.nilsl] [(0, (.t 25)), (1, (.t 26)), (2, (.t 27))]), o 29 (.call (.fn 17) [(.t 24), (.c (.i .u8 2)), (.c (.i .u8 0)), (.t 28)]), u (.store (some 5) (.t 2) (.t 29)), o 3 (.mv (.c (.i .i64 0)))]) .ret) 
  (.seq (.region [o 31 (.bin .eql (.t 8) (.c (.s [75]))), m 30 31]) (.cond (.t 30) 
  (.seq (.region [m 32 0, m 33 4, m 34 5, o 35 (.call (.fn 19) []), o 36 (.buildSlice none 3 [.nilsl] [(0, (.t 33)), (1, (.t 34)), (2, (.t 35))]), o 37 (.call (.fn 17) [(.t 32), (.c (.i .u8 4)), (.c (.i .u8 0)), (.t 36)]), u (.store (some 5) (.t 2) (.t 37)), o 3 (.mv (.c (.i .i64 0)))]) .ret) 
  (.seq (.region [o 39 (.bin .eql (.t 8) (.c (.s [84]))), m 38 39]) (.cond (.t 38) 
  (.seq (.region [m 40 0, m 41 4, m 42 5, o 43 (.call (.fn 19) []), o 44 (.call (.fn 20) []), o 45 (.buildSlice none 4 [.nilsl] [(0, (.t 41)), (1, (.t 42)), (2, (.t 43)), (3, (.t 44))]), o 46 (.call (.fn 17) [(.t 40), (.c (.i .u8 4)), (.c (.i .u8 1)), (.t 45)]), u (.store (some 5) (.t 2) (.t 46)), o 3 (.mv (.c (.i .i64 0)))]) .ret) 
  (.seq (.region [o 48 (.bin .eql (.t 8) (.c (.s [83, 52]))), m 47 48]) (.cond (.t 47) 
  (.seq (.region [m 49 0, m 50 4, m 51 5, o 52 (.call (.fn 19) []), o 53 (.call (.fn 20) []), o 54 (.call (.fn 21) []), o 55 (.buildSlice none 5 [.nilsl] [(0, (.t 50)), (1, (.t 51)), (2, (.t 52)), (3, (.t 53)), (4, (.t 54))]), o 56 (.call (.fn 17) [(.t 49), (.c (.i .u8 4)), (.c (.i .u8 3)), (.t 55)]), u (.store (some 5) (.t 2) (.t 56)), o 3 (.mv (.c (.i .i64 0)))]) .ret) 
  (.seq (.region [o 58 (.bin .eql (.t 8) (.c (.s [83, 53]))), m 57 58]) (.cond (.t 57) 
  (.seq (.region [m 59 0, m 60 4, m 61 5, o 62 (.call (.fn 19) []), o 63 (.call (.fn 20) []), o 64 (.call (.fn 21) []), o 65 (.call (.fn 22) []), o 66 (.buildSlice none 6 [.nilsl] [(0, (.t 60)), (1, (.t 61)), (2, (.t 62)), (3, (.t 63)), (4, (.t 64)), (5, (.t 65))]), o 67 (.call (.fn 17) [(.t 59), (.c (.i .u8 4)), (.c (.i .u8 7)), (.t 66)]), u (.store (some 5) (.t 2) (.t 67)), o 3 (.mv (.c (.i .i64 0)))]) .ret) 
  (.seq (.region [o 69 (.bin .eql (.t 8) (.c (.s [76]))), m 68 69]) (.cond (.t 68) 
  (.seq (.region [m 70 0, m 71 4, m 72 5, o 73 (.call (.fn 23) []), o 74 (.buildSlice none 3 [.nilsl] [(0, (.t 71)), (1, (.t 72)), (2, (.t 73))]), o 75 (.call (.fn 17) [(.t 70), (.c (.i .u8 5)), (.c (.i .u8 0)), (.t 74)]), u (.store (some 5) (.t 2) (.t 75)), o 3 (.mv (.c (.i .i64 0)))]) .ret) .skip)))))))))))))))))) 
  (.seq (.region [o 76 (.build [(.s []), (.i .u32 0), (.i .u8 0), (.i .u8 0), .nilsl] []), u (.store (some 5) (.t 2) (.t 76)), o 3 (.mv (.c (.i .i64 6)))]) .ret)))))⟩
def c7 : AFunc := ⟨1, 86, [(2, none)], (some 
  (.seq (.region [o 1 (.box (.t 0)), o 2 (.mv (.c (.b false)))]) 
  (.seq (.region [o 8 (.fieldAddr 2 none (.t 1)), o 9 (.load none (.t 8)), o 10 (.call (.fn 24) [(.t 9)]), m 3 10]) 
  (.seq 
  (.seq (.region [o 11 (.fieldAddr 0 none (.t 1)), o 12 (.load none (.t 11)), o 13 (.call (.fn 25) [(.t 12)]), o 14 (.not (.t 13)), m 15 14, ⟨(some 16), .mv (.t 3), (some (15, false)), []⟩, ⟨(some 17), .bin .eql (.t 16) (.c (.i .u32 0)), (some (15, false)), []⟩, o 18 (.pick (.t 15) (.c (.b true)) (.t 17)), m 19 18, ⟨(some 20), .fieldAddr 1 none (.t 1), (some (19, false)), []⟩, ⟨(some 21), .load none (.t 20), (some (19, false)), []⟩, ⟨(some 22), .bin .and (.t 21) (.c (.i .u32 2)), (some (19, false)), []⟩, ⟨(some 23), .bin .eql (.t 22) (.c (.i .u32 0)), (some (19, false)), []⟩, o 24 (.pick (.t 19) (.c (.b true)) (.t 23)), m 25 24, ⟨(some 26), .fieldAddr 1 none (.t 1), (some (25, false)), []⟩, ⟨(some 27), .load none (.t 26), (some (25, false)), []⟩, ⟨(some 28), .mv (.t 3), (some (25, false)), []⟩, ⟨(some 29), .bin .andNot (.t 27) (.t 28), (some (25, false)), []⟩, ⟨(some 30), .bin .neq (.t 29) (.c (.i .u32 0)), (some (25, false)), []⟩, o 31 (.pick (.t 25) (.c (.b true)) (.t 30))]) (.cond (.t 31) 
  (.seq (.region [o 2 (.mv (.c (.b false)))]) .ret) .skip)) 
  (.seq 
  (.seq (.region [o 32 (.fieldAddr 3 none (.t 1)), o 33 (.load none (.t 32)), o 34 (.bin .andNot (.t 33) (.c (.i .u8 7))), o 35 (.bin .neq (.t 34) (.c (.i .u8 0))), m 36 35, ⟨(some 37), .fieldAddr 3 none (.t 1), (some (36, false)), []⟩, ⟨(some 38), .load none (.t 37), (some (36, false)), []⟩, ⟨(some 39), .bin .neq (.t 38) (.c (.i .u8 0)), (some (36, false)), []⟩, ⟨(some 40), .mv (.t 39), (some (36, false)), []⟩, ⟨(some 41), .fieldAddr 2 none (.t 1), (some (40, true)), []⟩, ⟨(some 42), .load none (.t 41), (some (40, true)), []⟩, ⟨(some 43), .bin .neq (.t 42) (.c (.i .u8 4)), (some (40, true)), []⟩, ⟨(some 44), .pick (.t 40) (.t 43) (.c (.b false)), (some (36, false)), []⟩, o 45 (.pick (.t 36) (.c (.b true)) (.t 44))]) (.cond (.t 45) 
  (.seq (.region [o 2 (.mv (.c (.b false)))]) .ret) .skip)) 
  (.seq 
  (.seq (.region [o 46 (.fieldAddr 4 none (.t 1)), o 47 (.load none (.t 46)), o 48 (.len 1 (.t 47)), o 49 (.bin .gtr (.t 48) (.c (.i .i64 64)))]) (.cond (.t 49) 
  (.seq (.region [o 2 (.mv (.c (.b false)))]) .ret) .skip)) 
  (.seq (.region [o 50 (.fieldAddr 1 none (.t 1)), o 51 (.load none (.t 50)), o 52 (.bin .or (.t 51) (.c (.i .u32 32768))), m 4 52]) 
  (.seq 
  (.seq (.region [o 53 (.fieldAddr 1 none (.t 1)), o 54 (.load none (.t 53)), o 55 (.bin .and (.t 54) (.c (.i .u32 768))), o 56 (.bin .neq (.t 55) (.c (.i .u32 0)))]) (.cond (.t 56) (.region [m 57 4, o 58 (.bin .or (.t 57) (.c (.i .u32 65536))), m 4 58]) .skip)) 
  (.seq (.region [o 59 (.mkMap), m 5 59]) 
  (.seq 
  (.seq (.region [o 60 (.fieldAddr 4 none (.t 1)), o 61 (.load none (.t 60)), o 62 (.len 1 (.t 61)), o 63 (.mv (.c (.i .i64 0)))]) (.block 0 (.loop 
  (.seq (.region [o 64 (.bin .lss (.t 63) (.t 62))]) 
  (.seq (.cond (.t 64) .skip (.exit 0)) 
  (.seq (.block 1 
  (.seq (.region [o 65 (.idxSl (some 6) (.t 61) (.t 63)), o 66 (.load (some 6) (.t 65)), o 7 (.alloc (.ag [(.s []), .nilsl, (.i .u8 0), (.s []), .nilsl, .nilsl])), u (.store (some 6) (.t 7) (.t 66))]) 
  (.seq 
  (.seq (.region [m 67 5, o 68 (.fieldAddr 0 none (.t 7)), o 69 (.load none (.t 68)), o 70 (.lookup (.inl 1) (.t 67) (.t 69) (.b false) false), m 71 70, ⟨(some 72), .load (some 6) (.t 7), (some (71, false)), []⟩, ⟨(some 73), .call (.fn 26) [(.t 72)], (some (71, false)), []⟩, ⟨(some 74), .not (.t 73), (some (71, false)), []⟩, o 75 (.pick (.t 71) (.c (.b true)) (.t 74)), m 76 75, ⟨(some 77), .load (some 6) (.t 7), (some (76, false)), []⟩, ⟨(some 78), .mv (.t 4), (some (76, false)), []⟩, ⟨(some 79), .call (.fn 27) [(.t 77), (.t 78)], (some (76, false)), []⟩, ⟨(some 80), .not (.t 79), (some (76, false)), []⟩, o 81 (.pick (.t 76) (.c (.b true)) (.t 80))]) (.cond (.t 81) 
  (.seq (.region [o 2 (.mv (.c (.b false)))]) .ret) .skip)) (.region [m 82 5, o 83 (.fieldAddr 0 none (.t 7)), o 84 (.load none (.t 83)), u (.mapUpd (.inl 1) (.t 82) (.t 84) (.c (.b true)))])))) (.region [o 85 (.bin .add (.t 63) (.c (.i .i64 1))), m 63 85]))))))) 
  (.seq (.region [o 2 (.mv (.c (.b true)))]) .ret)))))))))))⟩
def c8 : AFunc := ⟨1, 53, [(2, none)], (some 
  (.seq (.region [o 1 (.box (.t 0)), o 2 (.mv (.c (.i .i64 0)))]) 
  (.seq (.region [o 3 (.mv (.c (.i .i64 0)))]) 
  (.seq (.region [o 11 (.fieldAddr 2 (some 4) (.t 1)), o 12 (.load (some 4) (.t 11)), o 13 (.buildSlice (some 4) 1 [(.i .u8 0), (.s []), .nilsl, .nilsl] [(0, (.t 12))]), m 4 13]) 
  (.seq 
  (.seq (.region [o 14 (.fieldAddr 1 none (.t 1)), o 15 (.load none (.t 14)), o 16 (.len 1 (.t 15)), o 17 (.mv (.c (.i .i64 0)))]) (.block 0 (.loop 
  (.seq (.region [o 18 (.bin .lss (.t 17) (.t 16))]) 
  (.seq (.cond (.t 18) .skip (.exit 0)) 
  (.seq (.block 1 
  (.seq (.region [o 19 (.idxSl (some 7) (.t 15) (.t 17)), o 20 (.load (some 7) (.t 19)), o 6 (.alloc (.ag [.nilsl, (.i .u8 0), (.s []), .nilsl, .nilsl, (.s []), (.b false)])), u (.store (some 7) (.t 6) (.t 20))]) (.draw [m 21 4, o 22 (.fieldAddr 1 (some 4) (.t 6)), ⟨(some 23), .load (some 4) (.t 22), none, [6]⟩, o 24 (.buildSlice (some 4) 1 [(.i .u8 0), (.s []), .nilsl, .nilsl] [(0, (.t 23))]), o 26 (.fieldAddr 0 none (.t 6)), ⟨(some 27), .load none (.t 26), none, [7]⟩, o 25 (.append (some 4) 72 (.t 21) (.t 24)), o 28 (.append (some 4) 72 (.t 25) (.t 27)), m 4 28]))) (.region [o 29 (.bin .add (.t 17) (.c (.i .i64 1))), m 17 29]))))))) 
  (.seq 
  (.seq (.region [m 30 4, o 31 (.len 1 (.t 30)), o 32 (.mv (.c (.i .i64 0)))]) (.block 2 (.loop 
  (.seq (.region [o 33 (.bin .lss (.t 32) (.t 31))]) 
  (.seq (.cond (.t 33) .skip (.exit 2)) 
  (.seq (.block 3 
  (.seq (.region [o 34 (.idxSl (some 4) (.t 30) (.t 32)), o 35 (.load (some 4) (.t 34)), o 8 (.alloc (.ag [(.i .u8 0), (.s []), .nilsl, .nilsl])), u (.store (some 4) (.t 8) (.t 35))]) 
  (.seq (.region [o 36 (.load (some 4) (.t 8)), o 37 (.call (.fn 28) [(.t 36)]), o 38 (.len 1 (.t 37)), o 39 (.mv (.c (.i .i64 0)))]) (.block 4 (.loop 
  (.seq (.region [o 40 (.bin .lss (.t 39) (.t 38))]) 
  (.seq (.cond (.t 40) .skip (.exit 4)) 
  (.seq (.block 5 
  (.seq (.region [o 41 (.idxSl none (.t 37) (.t 39)), o 42 (.load none (.t 41)), m 10 42]) (.region [m 43 3, m 44 10, o 45 (.indexStr (.t 44) (.c (.i .i64 1))), o 46 (.bin .sub (.t 45) (.c (.i .u8 65))), o 47 (.conv .i64 (.t 46)), o 48 (.bin .add (.t 47) (.c (.i .i64 1))), o 49 (.minmax true (.t 43) (.t 48)), m 3 49]))) (.region [o 50 (.bin .add (.t 39) (.c (.i .i64 1))), m 39 50]))))))))) (.region [o 51 (.bin .add (.t 32) (.c (.i .i64 1))), m 32 51]))))))) 
  (.seq (.region [m 52 3, m 2 52]) .ret)))))))⟩
def c9 : AFunc := ⟨3, 75, [(6, none)], (some (.seq (.region [⟨(some 3), .box (.t 0), none, []⟩, ⟨(some 4), .box (.t 1), none, []⟩, ⟨(some 6), .mv (.c (.b false)), none, []⟩]) (.seq (.region [⟨(some 14), .load (some 6) (.t 4), none, []⟩, ⟨(some 15), .call (.fn 8) [(.t 14)], none, []⟩, ⟨(some 7), .mv (.t 15), none, []⟩]) (.seq (.seq (.region [⟨(some 16), .load (some 5) (.t 3), none, []⟩, ⟨(some 17), .mv (.t 2), none, []⟩, ⟨(some 18), .call (.fn 29) [(.t 16), (.t 17)], none, []⟩, ⟨(some 19), .len 1 (.t 18), none, []⟩, ⟨(some 20), .mv (.c (.i .i64 0)), none, []⟩]) (.block 0 (.loop (.seq (.region [⟨(some 21), .bin .lss (.t 20) (.t 19), none, []⟩]) (.seq (.cond (.t 21) .skip (.exit 0)) (.seq (.block 1 (.seq (.region [⟨(some 22), .idxSl (some 3) (.t 18) (.t 20), none, []⟩, ⟨(some 23), .load (some 3) (.t 22), none, []⟩, ⟨(some 9), .alloc (.ag [(.i .i64 0), .nilsl, (.i .u8 0)]), none, []⟩, ⟨none, .store (some 3) (.t 9) (.t 23), none, []⟩]) (.seq (.region [⟨(some 24), .mv (.t 7), none, []⟩, ⟨(some 25), .fieldAddr 0 none (.t 9), none, []⟩, ⟨(some 26), .load none (.t 25), none, []⟩, ⟨(some 27), .bin .mul (.t 24) (.t 26), none, []⟩, ⟨(some 28), .bin .shl (.c (.i .i64 1)) (.t 27), none, []⟩, ⟨(some 29), .mv (.c (.i .i64 0)), none, []⟩]) (.block 2 (.loop (.seq (.region [⟨(some 30), .bin .lss (.t 29) (.t 28), none, []⟩]) (.seq (.cond (.t 30) .skip (.exit 2)) (.seq (.block 3 (.seq (.region [⟨(some 31), .mv (.t 29), none, []⟩, ⟨(some 10), .mv (.t 31), none, []⟩]) (.seq (.region [⟨(some 11), .alloc (.ag [(.i .i64 0), (.i .i64 0), (.i .i64 0), (.i .i64 0)]), none, []⟩]) (.seq (.region [⟨(some 12), .mv (.c (.b true)), none, []⟩]) (.seq (.seq (.region [⟨(some 32), .mv (.t 7), none, []⟩, ⟨(some 33), .mv (.c (.i .i64 0)), none, []⟩]) (.block 4 (.loop (.seq (.region [⟨(some 34), .bin .lss (.t 33) (.t 32), none, []⟩]) (.seq (.cond (.t 34) .skip (.exit 4)) (.seq (.block 5 (.seq (.region [⟨(some 35), .mv (.t 33), none, []⟩, ⟨(some 13), .mv (.t 35), none, []⟩]) (.seq (.draw [⟨(some 36), .mv (.t 13), none, []⟩, ⟨(some 37), .mv (.t 10), none, []⟩, ⟨(some 38), .mv (.t 13), none, []⟩, ⟨(some 39), .fieldAddr 0 none (.t 9), none, []⟩, ⟨(some 40), .load none (.t 39), none, [11]⟩, ⟨(some 41), .bin .mul (.t 38) (.t 40), none, []⟩, ⟨(some 42), .bin .shr (.t 37) (.t 41), none, []⟩, ⟨(some 43), .load (some 3) (.t 9), none, []⟩, ⟨(some 44), .call (.fn 30) [(.t 43)], none, []⟩, ⟨(some 45), .bin .and (.t 42) (.t 44), none, []⟩, ⟨(some 46), .idxArr 4 none (.t 11) (.t 36), none, []⟩, ⟨none, .store none (.t 46) (.t 45), none, []⟩]) (.draw [⟨(some 47), .mv (.t 12), none, []⟩, ⟨(some 48), .mv (.t 47), none, []⟩, ⟨(some 49), .fieldAddr 2 none (.t 3), (some (48, true)), []⟩, ⟨(some 50), .load none (.t 49), (some (48, true)), []⟩, ⟨(some 51), .bin .neq (.t 50) (.c (.i .u8 3)), (some (48, true)), []⟩, ⟨(some 52), .mv (.t 51), (some (48, true)), []⟩, ⟨(some 53), .load (some 3) (.t 9), (some (52, false)), []⟩, ⟨(some 54), .mv (.t 13), (some (52, false)), []⟩, ⟨(some 55), .idxArr 4 none (.t 11) (.t 54), (some (52, false)), []⟩, ⟨(some 56), .load none (.t 55), (some (52, false)), []⟩, ⟨(some 58), .mv (.t 13), (some (52, false)), []⟩, ⟨(some 59), .idxArr 4 none (.t 11) (.t 58), (some (52, false)), []⟩, ⟨(some 60), .load none (.t 59), (some (52, false)), [18]⟩, ⟨(some 57), .call (.fn 31) [(.t 53), (.t 56)], (some (52, false)), []⟩, ⟨(some 61), .bin .eql (.t 57) (.t 60), (some (52, false)), []⟩, ⟨(some 62), .pick (.t 52) (.c (.b true)) (.t 61), (some (48, true)), []⟩, ⟨(some 63), .pick (.t 48) (.t 62) (.c (.b false)), none, []⟩, ⟨(some 12), .mv (.t 63), none, []⟩])))) (.region [⟨(some 64), .bin .add (.t 33) (.c (.i .i64 1)), none, []⟩, ⟨(some 33), .mv (.t 64), none, []⟩]))))))) (.seq (.region [⟨(some 65), .mv (.t 12), none, []⟩, ⟨(some 66), .mv (.t 65), none, []⟩, ⟨(some 67), .load (some 3) (.t 9), (some (66, true)), []⟩, ⟨(some 68), .load (some 6) (.t 4), (some (66, true)), []⟩, ⟨(some 69), .load (some 4) (.t 11), (some (66, true)), []⟩, ⟨(some 70), .call (.fn 32) [(.t 67), (.t 68), (.t 69)], (some (66, true)), []⟩, ⟨(some 71), .not (.t 70), (some (66, true)), []⟩, ⟨(some 72), .pick (.t 66) (.t 71) (.c (.b false)), none, []⟩]) (.cond (.t 72) (.seq (.region [⟨(some 6), .mv (.c (.b false)), none, []⟩]) .ret) .skip))))))) (.region [⟨(some 73), .bin .add (.t 29) (.c (.i .i64 1)), none, []⟩, ⟨(some 29), .mv (.t 73), none, []⟩]))))))))) (.region [⟨(some 74), .bin .add (.t 20) (.c (.i .i64 1)), none, []⟩, ⟨(some 20), .mv (.t 74), none, []⟩]))))))) (.seq (.region [⟨(some 6), .mv (.c (.b true)), none, []⟩]) .ret)))))⟩
def c10 : AFunc := ⟨0, 116, [(0, none)], (some 
  (.seq (.region [o 0 (.mv (.c (.b false)))]) 
  (.seq (.region [o 15 (.buildSlice none 8 [(.i .i64 0)] [(0, (.c (.i .i64 15))), (1, (.c (.i .i64 14))), (2, (.c (.i .i64 19))), (3, (.c (.i .i64 21))), (4, (.c (.i .i64 22))), (5, (.c (.i .i64 23))), (6, (.c (.i .i64 24))), (7, (.c (.i .i64 31)))]), m 1 15]) 
  (.seq 
  (.seq (.region [o 16 (.call (.fn 5) []), o 17 (.len 1 (.t 16)), o 18 (.mv (.c (.i .i64 0)))]) (.block 0 (.loop 
  (.seq (.region [o 19 (.bin .lss (.t 18) (.t 17))]) 
  (.seq (.cond (.t 19) .skip (.exit 0)) 
  (.seq (.block 1 
  (.seq (.region [m 20 18, o 21 (.idxSl none (.t 16) (.t 18)), o 22 (.load none (.t 21)), m 2 20, m 3 22]) 
  (.seq (.region [m 24 3, o 25 (.call (.fn 6) [(.t 24)]), m 23 25, o 26 (.extract (.t 23) 0), o 27 (.extract (.t 23) 1), o 4 (.alloc (.ag [(.s []), (.i .u32 0), (.i .u8 0), (.i .u8 0), .nilsl])), u (.store (some 5) (.t 4) (.t 26)), m 5 27]) 
  (.seq (.draw [m 28 5, o 29 (.bin .neq (.t 28) (.c (.i .i64 0))), m 30 29, ⟨(some 31), .mv (.t 2), (some (30, false)), []⟩, ⟨(some 32), .mv (.t 1), (some (30, false)), []⟩, ⟨(some 33), .len 1 (.t 32), (some (30, false)), []⟩, ⟨(some 34), .bin .geq (.t 31) (.t 33), (some (30, false)), []⟩, o 35 (.pick (.t 30) (.c (.b true)) (.t 34)), m 36 35, ⟨(some 37), .fieldAddr 4 none (.t 4), (some (36, false)), []⟩, ⟨(some 38), .load none (.t 37), (some (36, false)), []⟩, ⟨(some 39), .len 1 (.t 38), (some (36, false)), []⟩, ⟨(some 40), .mv (.t 1), (some (36, false)), []⟩, ⟨(some 41), .mv (.t 2), (some (36, false)), []⟩, ⟨(some 42), .idxSl none (.t 40) (.t 41), (some (36, false)), []⟩, ⟨(some 43), .load none (.t 42), (some (36, false)), []⟩, ⟨(some 44), .bin .neq (.t 39) (.t 43), (some (36, false)), []⟩, o 45 (.pick (.t 36) (.c (.b true)) (.t 44))]) (.cond (.t 45) 
  (.seq (.region [o 0 (.mv (.c (.b false)))]) .ret) .skip))))) (.region [o 46 (.bin .add (.t 18) (.c (.i .i64 1))), m 18 46]))))))) 
  (.seq (.region [o 48 (.call (.fn 6) [(.c (.s [75, 49]))]), m 47 48, o 49 (.extract (.t 47) 0), o 50 (.extract (.t 47) 1), o 6 (.alloc (.ag [(.s []), (.i .u32 0), (.i .u8 0), (.i .u8 0), .nilsl])), u (.store (some 5) (.t 6) (.t 49)), m 7 50]) 
  (.seq (.region [o 52 (.call (.fn 6) [(.c (.s [75]))]), m 51 52, o 53 (.extract (.t 51) 0), o 54 (.extract (.t 51) 1), o 8 (.alloc (.ag [(.s []), (.i .u32 0), (.i .u8 0), (.i .u8 0), .nilsl])), u (.store (some 5) (.t 8) (.t 53)), m 9 54]) 
  (.seq (.region [o 56 (.call (.fn 6) [(.c (.s [75, 50]))]), m 55 56, o 57 (.extract (.t 55) 0), o 58 (.extract (.t 55) 1), o 10 (.alloc (.ag [(.s []), (.i .u32 0), (.i .u8 0), (.i .u8 0), .nilsl])), u (.store (some 5) (.t 10) (.t 57)), m 11 58]) 
  (.seq (.draw [⟨(some 60), .load (some 5) (.t 6), none, [2, 4, 5]⟩, o 61 (.call (.fn 35) [(.c (.s [80])), (.c .nilsl)]), o 62 (.call (.fn 35) [(.c (.s [81])), (.c .nilsl)]), o 63 (.buildSlice (some 4) 2 [(.i .u8 0), (.s []), .nilsl, .nilsl] [(0, (.t 61)), (1, (.t 62))]), o 64 (.call (.fn 34) [(.c (.i .u8 4)), (.t 63)]), o 65 (.call (.fn 33) [(.t 60), (.t 64)]), m 59 65, o 66 (.extract (.t 59) 0), o 67 (.extract (.t 59) 1), m 12 66, m 13 67]) 
  (.seq (.region [o 68 (.build [(.b false), (.s []), .nilsl] [(0, 1, (.c (.b true))), (1, 1, (.c (.s [120])))]), o 69 (.buildSlice (some 3) 1 [(.b false), (.s []), .nilsl] [(0, (.t 68))]), o 70 (.call (.fn 35) [(.c (.s [80])), (.t 69)]), o 14 (.alloc (.ag [(.i .u8 0), (.s []), .nilsl, .nilsl])), u (.store (some 4) (.t 14) (.t 70))]) 
  (.seq (.draw [m 71 7, o 72 (.bin .eql (.t 71) (.c (.i .i64 0))), m 73 72, ⟨(some 74), .mv (.t 9), (some (73, true)), []⟩, ⟨(some 75), .bin .eql (.t 74) (.c (.i .i64 0)), (some (73, true)), []⟩, o 76 (.pick (.t 73) (.t 75) (.c (.b false))), m 77 76, ⟨(some 78), .mv (.t 11), (some (77, true)), []⟩, ⟨(some 79), .bin .eql (.t 78) (.c (.i .i64 0)), (some (77, true)), []⟩, o 80 (.pick (.t 77) (.t 79) (.c (.b false))), m 81 80, ⟨(some 82), .mv (.t 13), (some (81, true)), []⟩, ⟨(some 83), .bin .eql (.t 82) (.c (.i .i64 0)), (some (81, true)), []⟩, o 84 (.pick (.t 81) (.t 83) (.c (.b false))), m 85 84, ⟨(some 86), .mv (.t 12), (some (85, true)), []⟩, ⟨(some 87), .buildSlice none 9 [(.s [])] [(0, (.c (.s [97, 110, 100, 73]))), (1, (.c (.s [97, 110, 100, 69, 49]))), (2, (.c (.s [97, 110, 100, 69, 50]))), (3, (.c (.s [111, 114, 69]))), (4, (.c (.s [105, 109, 112, 69]))), (5, (.c (.s [102, 97, 108, 115, 101, 69]))), (6, (.c (.s [105, 102, 102, 69, 49]))), (7, (.c (.s [105, 102, 102, 69, 50]))), (8, (.c (.s [114, 97, 97])))], (some (85, true)), []⟩, ⟨(some 88), .call (.fn 36) [(.t 86), (.t 87)], (some (85, true)), []⟩, o 89 (.pick (.t 85) (.t 88) (.c (.b false))), m 90 89, ⟨(some 91), .load (some 5) (.t 8), (some (90, true)), [23, 24]⟩, ⟨(some 92), .call (.fn 35) [(.c (.s [80])), (.c .nilsl)], (some (90, true)), []⟩, ⟨(some 93), .buildSlice (some 4) 1 [(.i .u8 0), (.s []), .nilsl, .nilsl] [(0, (.t 92))], (some (90, true)), []⟩, ⟨(some 94), .call (.fn 34) [(.c (.i .u8 10)), (.t 93)], (some (90, true)), []⟩, ⟨(some 95), .call (.fn 13) [(.t 91), (.t 94)], (some (90, true)), []⟩, o 96 (.pick (.t 90) (.t 95) (.c (.b false))), m 97 96, ⟨(some 98), .load (some 5) (.t 6), (some (97, true)), [30, 31]⟩, ⟨(some 99), .call (.fn 35) [(.c (.s [80])), (.c .nilsl)], (some (97, true)), []⟩, ⟨(some 100), .buildSlice (some 4) 1 [(.i .u8 0), (.s []), .nilsl, .nilsl] [(0, (.t 99))], (some (97, true)), []⟩, ⟨(some 101), .call (.fn 34) [(.c (.i .u8 10)), (.t 100)], (some (97, true)), []⟩, ⟨(some 102), .call (.fn 13) [(.t 98), (.t 101)], (some (97, true)), []⟩, ⟨(some 103), .not (.t 102), (some (97, true)), []⟩, o 104 (.pick (.t 97) (.t 103) (.c (.b false))), m 105 104, ⟨(some 106), .load (some 5) (.t 10), (some (105, true)), []⟩, ⟨(some 107), .load (some 4) (.t 14), (some (105, true)), []⟩, ⟨(some 108), .call (.fn 13) [(.t 106), (.t 107)], (some (105, true)), []⟩, o 109 (.pick (.t 105) (.t 108) (.c (.b false))), m 110 109, ⟨(some 111), .load (some 5) (.t 8), (some (110, true)), []⟩, ⟨(some 112), .load (some 4) (.t 14), (some (110, true)), []⟩, ⟨(some 113), .call (.fn 13) [(.t 111), (.t 112)], (some (110, true)), []⟩, ⟨(some 114), .not (.t 113), (some (110, true)), []⟩, o 115 (.pick (.t 110) (.t 114) (.c (.b false))), m 0 115]) .ret))))))))))⟩
def c13 : AFunc := ⟨2, 12, [(4, none)], (some 
  (.seq (.region [o 2 (.box (.t 0)), o 3 (.box (.t 1)), o 4 (.mv (.c (.b false)))]) 
  (.seq (.region [o 5 (.load (some 5) (.t 2)), o 6 (.call (.fn 7) [(.t 5)]), m 7 6, ⟨(some 8), .load (some 5) (.t 2), (some (7, true)), []⟩, ⟨(some 9), .load (some 4) (.t 3), (some (7, true)), []⟩, ⟨(some 10), .call (.fn 40) [(.t 8), (.t 9)], (some (7, true)), []⟩, o 11 (.pick (.t 7) (.t 10) (.c (.b false))), m 4 11]) .ret)))⟩
def c15 : AFunc := ⟨0, 18, [(0, none)], (some 
  (.seq (.region [o 0 (.mv (.c .nilsl))]) 
  (.seq (.region [o 2 (.build [(.s []), (.s []), (.s [])] [(0, 1, (.c (.s [97, 110, 100, 73]))), (1, 1, (.c (.s [63, 65, 59, 32, 63, 66]))), (2, 1, (.c (.s [63, 65, 32, 38, 32, 63, 66])))]), o 3 (.build [(.s []), (.s []), (.s [])] [(0, 1, (.c (.s [97, 110, 100, 69, 49]))), (1, 1, (.c (.s [63, 65, 32, 38, 32, 63, 66]))), (2, 1, (.c (.s [63, 65])))]), o 4 (.build [(.s []), (.s []), (.s [])] [(0, 1, (.c (.s [97, 110, 100, 69, 50]))), (1, 1, (.c (.s [63, 65, 32, 38, 32, 63, 66]))), (2, 1, (.c (.s [63, 66])))]), o 5 (.build [(.s []), (.s []), (.s [])] [(0, 1, (.c (.s [111, 114, 73, 49]))), (1, 1, (.c (.s [63, 65]))), (2, 1, (.c (.s [63, 65, 32, 124, 32, 63, 66])))]), o 6 (.build [(.s []), (.s []), (.s [])] [(0, 1, (.c (.s [111, 114, 73, 50]))), (1, 1, (.c (.s [63, 66]))), (2, 1, (.c (.s [63, 65, 32, 124, 32, 63, 66])))]), o 7 (.build [(.s []), (.s []), (.s [])] [(0, 1, (.c (.s [111, 114, 69]))), (1, 1, (.c (.s [63, 65, 32, 124, 32, 63, 66, 59, 32, 123, 63, 65, 125, 32, 63, 67, 59, 32, 123, 63, 66, 125, 32, 63, 67]))), (2, 1, (.c (.s [63, 67])))]), o 8 (.build [(.s []), (.s []), (.s [])] [(0, 1, (.c (.s [105, 109, 112, 73]))), (1, 1, (.c (.s [123, 63, 65, 125, 32, 63, 66]))), (2, 1, (.c (.s [63, 65, 32, 45, 62, 32, 63, 66])))]), o 9 (.build [(.s []), (.s []), (.s [])] [(0, 1, (.c (.s [105, 109, 112, 69]))), (1, 1, (.c (.s [63, 65, 32, 45, 62, 32, 63, 66, 59, 32, 63, 65]))), (2, 1, (.c (.s [63, 66])))]), o 10 (.build [(.s []), (.s []), (.s [])] [(0, 1, (.c (.s [110, 111, 116, 73]))), (1, 1, (.c (.s [123, 63, 65, 125, 32, 102, 97, 108, 115, 101]))), (2, 1, (.c (.s [126, 63, 65])))]), o 11 (.build [(.s []), (.s []), (.s [])] [(0, 1, (.c (.s [110, 111, 116, 69]))), (1, 1, (.c (.s [63, 65, 59, 32, 126, 63, 65]))), (2, 1, (.c (.s [102, 97, 108, 115, 101])))]), o 12 (.build [(.s []), (.s []), (.s [])] [(0, 1, (.c (.s [102, 97, 108, 115, 101, 69]))), (1, 1, (.c (.s [102, 97, 108, 115, 101]))), (2, 1, (.c (.s [63, 65])))]), o 13 (.build [(.s []), (.s []), (.s [])] [(0, 1, (.c (.s [105, 102, 102, 73]))), (1, 1, (.c (.s [123, 63, 65, 125, 32, 63, 66, 59, 32, 123, 63, 66, 125, 32, 63, 65]))), (2, 1, (.c (.s [63, 65, 32, 60, 45, 62, 32, 63, 66])))]), o 14 (.build [(.s []), (.s []), (.s [])] [(0, 1, (.c (.s [105, 102, 102, 69, 49]))), (1, 1, (.c (.s [63, 65, 32, 60, 45, 62, 32, 63, 66, 59, 32, 63, 65]))), (2, 1, (.c (.s [63, 66])))]), o 15 (.build [(.s []), (.s []), (.s [])] [(0, 1, (.c (.s [105, 102, 102, 69, 50]))), (1, 1, (.c (.s [63, 65, 32, 60, 45, 62, 32, 63, 66, 59, 32, 63, 66]))), (2, 1, (.c (.s [63, 65])))]), o 16 (.build [(.s []), (.s []), (.s []), (.s []), (.s []), (.s []), (.s []), (.s []), (.s []), (.s []), (.s []), (.s []), (.s []), (.s []), (.s []), (.s []), (.s []), (.s []), (.s []), (.s []), (.s []), (.s []), (.s []), (.s []), (.s []), (.s []), (.s []), (.s []), (.s []), (.s []), (.s []), (.s []), (.s []), (.s []), (.s []), (.s []), (.s []), (.s []), (.s []), (.s []), (.s []), (.s [])] [(0, 3, (.t 2)), (3, 3, (.t 3)), (6, 3, (.t 4)), (9, 3, (.t 5)), (12, 3, (.t 6)), (15, 3, (.t 7)), (18, 3, (.t 8)), (21, 3, (.t 9)), (24, 3, (.t 10)), (27, 3, (.t 11)), (30, 3, (.t 12)), (33, 3, (.t 13)), (36, 3, (.t 14)), (39, 3, (.t 15))]), o 1 (.alloc (.ag [(.s []), (.s []), (.s []), (.s []), (.s []), (.s []), (.s []), (.s []), (.s []), (.s []), (.s []), (.s []), (.s []), (.s []), (.s []), (.s []), (.s []), (.s []), (.s []), (.s []), (.s []), (.s []), (.s []), (.s []), (.s []), (.s []), (.s []), (.s []), (.s []), (.s []), (.s []), (.s []), (.s []), (.s []), (.s []), (.s []), (.s []), (.s []), (.s []), (.s []), (.s []), (.s [])])), u (.store (some 42) (.t 1) (.t 16))]) 
  (.seq (.region [o 17 (.sliceArr 14 (some 3) (.t 1) none none), m 0 17]) .ret))))⟩
def c16 : AFunc := ⟨0, 5, [(0, none)], (some 
  (.seq (.region [o 0 (.mv (.c .nilsl))]) 
  (.seq (.region [o 2 (.build [(.s []), (.s []), (.s [])] [(0, 1, (.c (.s [114, 97, 97]))), (1, 1, (.c (.s [123, 126, 63, 65, 125, 32, 102, 97, 108, 115, 101]))), (2, 1, (.c (.s [63, 65])))]), o 3 (.build [(.s []), (.s []), (.s [])] [(0, 3, (.t 2))]), o 1 (.alloc (.ag [(.s []), (.s []), (.s [])])), u (.store (some 3) (.t 1) (.t 3))]) 
  (.seq (.region [o 4 (.sliceArr 1 (some 3) (.t 1) none none), m 0 4]) .ret))))⟩
def c17 : AFunc := ⟨4, 60, [(8, (some (some 5)))], (some 
  (.seq (.region [o 8 (.alloc (.ag [(.s []), (.i .u32 0), (.i .u8 0), (.i .u8 0), .nilsl]))]) 
  (.seq (.region [m 16 0, m 17 1, o 18 (.call (.fn 24) [(.t 17)]), m 19 1, m 20 2, o 21 (.build [(.s []), (.i .u32 0), (.i .u8 0), (.i .u8 0), .nilsl] [(0, 1, (.t 16)), (1, 1, (.t 18)), (2, 1, (.t 19)), (3, 1, (.t 20))]), o 9 (.alloc (.ag [(.s []), (.i .u32 0), (.i .u8 0), (.i .u8 0), .nilsl])), u (.store (some 5) (.t 9) (.t 21))]) 
  (.seq 
  (.seq (.region [m 22 3, o 23 (.len 1 (.t 22)), o 24 (.mv (.c (.i .i64 0)))]) (.block 0 (.loop 
  (.seq (.region [o 25 (.bin .lss (.t 24) (.t 23))]) 
  (.seq (.cond (.t 25) .skip (.exit 0)) 
  (.seq (.block 1 
  (.seq (.region [o 26 (.idxSl none (.t 22) (.t 24)), o 27 (.load none (.t 26)), m 11 27]) 
  (.seq (.region [m 28 11, o 29 (.len 1 (.t 28)), o 30 (.mv (.c (.i .i64 0)))]) (.block 2 (.loop 
  (.seq (.region [o 31 (.bin .lss (.t 30) (.t 29))]) 
  (.seq (.cond (.t 31) .skip (.exit 2)) 
  (.seq (.block 3 
  (.seq (.region [o 32 (.idxSl (some 3) (.t 28) (.t 30)), o 33 (.load (some 3) (.t 32)), o 13 (.alloc (.ag [(.s []), (.s []), (.s [])])), u (.store (some 3) (.t 13) (.t 33))]) 
  (.seq (.draw [o 34 (.fieldAddr 0 none (.t 13)), ⟨(some 35), .load none (.t 34), none, [5, 7]⟩, o 36 (.fieldAddr 2 none (.t 13)), ⟨(some 37), .load none (.t 36), none, [5]⟩, o 14 (.alloc (.ag [(.s []), .nilsl, (.i .u8 0), (.s []), .nilsl, .nilsl])), o 38 (.call (.fn 42) [(.t 37)]), o 39 (.build [(.s []), .nilsl, (.i .u8 0), (.s []), .nilsl, .nilsl] [(0, 1, (.t 35)), (2, 4, (.t 38))]), u (.store (some 6) (.t 14) (.t 39))]) 
  (.seq 
  (.seq (.region [o 40 (.fieldAddr 1 none (.t 13)), o 41 (.load none (.t 40)), o 42 (.call (.fn 43) [(.t 41)])]) (.block 4 (.rangeFunc (.t 42) [43] (.region [m 15 43]) (.block 5 (.draw [o 44 (.fieldAddr 1 none (.t 14)), ⟨(some 45), .load none (.t 44), none, [5]⟩, m 46 15, o 47 (.call (.fn 44) [(.t 46)]), o 48 (.buildSlice (some 7) 1 [.nilsl, (.i .u8 0), (.s []), .nilsl, .nilsl, (.s []), (.b false)] [(0, (.t 47))]), o 49 (.append (some 7) 120 (.t 45) (.t 48)), o 50 (.fieldAddr 1 none (.t 14)), u (.store none (.t 50) (.t 49))]))))) (.region [o 51 (.fieldAddr 4 none (.t 9)), o 52 (.load none (.t 51)), o 53 (.load (some 6) (.t 14)), o 54 (.buildSlice (some 6) 1 [(.s []), .nilsl, (.i .u8 0), (.s []), .nilsl, .nilsl] [(0, (.t 53))]), o 55 (.append (some 6) 112 (.t 52) (.t 54)), o 56 (.fieldAddr 4 none (.t 9)), u (.store none (.t 56) (.t 55))]))))) (.region [o 57 (.bin .add (.t 30) (.c (.i .i64 1))), m 30 57]))))))))) (.region [o 58 (.bin .add (.t 24) (.c (.i .i64 1))), m 24 58]))))))) 
  (.seq (.region [o 59 (.load (some 5) (.t 9)), u (.store (some 5) (.t 8) (.t 59))]) .ret)))))⟩
def c18 : AFunc := ⟨0, 8, [(0, none)], (some 
  (.seq (.region [o 0 (.mv (.c .nilsl))]) 
  (.seq (.region [o 2 (.build [(.s []), (.s []), (.s [])] [(0, 1, (.c (.s [97, 108, 108, 73]))), (1, 1, (.c (.s [102, 114, 101, 115, 104, 32, 63, 97, 32, 63, 65, 91, 63, 97, 47, 120, 93]))), (2, 1, (.c (.s [97, 108, 108, 32, 120, 32, 63, 65])))]), o 3 (.build [(.s []), (.s []), (.s [])] [(0, 1, (.c (.s [97, 108, 108, 69]))), (1, 1, (.c (.s [97, 108, 108, 32, 120, 32, 63, 65]))), (2, 1, (.c (.s [63, 65, 91, 63, 116, 47, 120, 93])))]), o 4 (.build [(.s []), (.s []), (.s [])] [(0, 1, (.c (.s [115, 111, 109, 101, 73]))), (1, 1, (.c (.s [63, 65, 91, 63, 116, 47, 120, 93]))), (2, 1, (.c (.s [115, 111, 109, 101, 32, 120, 32, 63, 65])))]), o 5 (.build [(.s []), (.s []), (.s [])] [(0, 1, (.c (.s [115, 111, 109, 101, 69]))), (1, 1, (.c (.s [115, 111, 109, 101, 32, 120, 32, 63, 65, 59, 32, 102, 114, 101, 115, 104, 32, 63, 97, 32, 123, 63, 65, 91, 63, 97, 47, 120, 93, 125, 32, 63, 67]))), (2, 1, (.c (.s [63, 67])))]), o 6 (.build [(.s []), (.s []), (.s []), (.s []), (.s []), (.s []), (.s []), (.s []), (.s []), (.s []), (.s []), (.s [])] [(0, 3, (.t 2)), (3, 3, (.t 3)), (6, 3, (.t 4)), (9, 3, (.t 5))]), o 1 (.alloc (.ag [(.s []), (.s []), (.s []), (.s []), (.s []), (.s []), (.s []), (.s []), (.s []), (.s []), (.s []), (.s [])])), u (.store (some 12) (.t 1) (.t 6))]) 
  (.seq (.region [o 7 (.sliceArr 4 (some 3) (.t 1) none none), m 0 7]) .ret))))⟩
def c19 : AFunc := ⟨0, 10, [(0, none)], (some 
  (.seq (.region [o 0 (.mv (.c .nilsl))]) 
  (.seq (.region [o 2 (.build [(.s []), (.s []), (.s [])] [(0, 1, (.c (.s [98, 111, 120, 73, 48]))), (1, 1, (.c (.s [99, 108, 111, 115, 101, 100, 32, 63, 68]))), (2, 1, (.c (.s [91, 93, 63, 68])))]), o 3 (.build [(.s []), (.s []), (.s [])] [(0, 1, (.c (.s [98, 111, 120, 73, 49]))), (1, 1, (.c (.s [91, 93, 63, 65, 59, 32, 99, 108, 111, 115, 101, 100, 32, 123, 63, 65, 125, 32, 63, 68]))), (2, 1, (.c (.s [91, 93, 63, 68])))]), o 4 (.build [(.s []), (.s []), (.s [])] [(0, 1, (.c (.s [98, 111, 120, 73, 50]))), (1, 1, (.c (.s [91, 93, 63, 65, 59, 32, 91, 93, 63, 66, 59, 32, 99, 108, 111, 115, 101, 100, 32, 123, 63, 65, 59, 32, 63, 66, 125, 32, 63, 68]))), (2, 1, (.c (.s [91, 93, 63, 68])))]), o 5 (.build [(.s []), (.s []), (.s [])] [(0, 1, (.c (.s [98, 111, 120, 73, 51]))), (1, 1, (.c (.s [91, 93, 63, 65, 59, 32, 91, 93, 63, 66, 59, 32, 91, 93, 63, 67, 59, 32, 99, 108, 111, 115, 101, 100, 32, 123, 63, 65, 59, 32, 63, 66, 59, 32, 63, 67, 125, 32, 63, 68]))), (2, 1, (.c (.s [91, 93, 63, 68])))]), o 6 (.build [(.s []), (.s []), (.s [])] [(0, 1, (.c (.s [100, 105, 97, 73]))), (1, 1, (.c (.s [126, 91, 93, 126, 63, 65]))), (2, 1, (.c (.s [60, 62, 63, 65])))]), o 7 (.build [(.s []), (.s []), (.s [])] [(0, 1, (.c (.s [100, 105, 97, 69]))), (1, 1, (.c (.s [60, 62, 63, 65]))), (2, 1, (.c (.s [126, 91, 93, 126, 63, 65])))]), o 8 (.build [(.s []), (.s []), (.s []), (.s []), (.s []), (.s []), (.s []), (.s []), (.s []), (.s []), (.s []), (.s []), (.s []), (.s []), (.s []), (.s []), (.s []), (.s [])] [(0, 3, (.t 2)), (3, 3, (.t 3)), (6, 3, (.t 4)), (9, 3, (.t 5)), (12, 3, (.t 6)), (15, 3, (.t 7))]), o 1 (.alloc (.ag [(.s []), (.s []), (.s []), (.s []), (.s []), (.s []), (.s []), (.s []), (.s []), (.s []), (.s []), (.s []), (.s []), (.s []), (.s []), (.s []), (.s []), (.s [])])), u (.store (some 18) (.t 1) (.t 8))]) 
  (.seq (.region [o 9 (.sliceArr 6 (some 3) (.t 1) none none), m 0 9]) .ret))))⟩
def c20 : AFunc := ⟨0, 5, [(0, none)], (some 
  (.seq (.region [o 0 (.mv (.c .nilsl))]) 
  (.seq (.region [o 2 (.build [(.s []), (.s []), (.s [])] [(0, 1, (.c (.s [98, 111, 120, 69]))), (1, 1, (.c (.s [91, 93, 63, 65]))), (2, 1, (.c (.s [63, 65])))]), o 3 (.build [(.s []), (.s []), (.s [])] [(0, 3, (.t 2))]), o 1 (.alloc (.ag [(.s []), (.s []), (.s [])])), u (.store (some 3) (.t 1) (.t 3))]) 
  (.seq (.region [o 4 (.sliceArr 1 (some 3) (.t 1) none none), m 0 4]) .ret))))⟩
def c21 : AFunc := ⟨0, 5, [(0, none)], (some 
  (.seq (.region [o 0 (.mv (.c .nilsl))]) 
  (.seq (.region [o 2 (.build [(.s []), (.s []), (.s [])] [(0, 1, (.c (.s [98, 111, 120, 52]))), (1, 1, (.c (.s [91, 93, 63, 65]))), (2, 1, (.c (.s [91, 93, 91, 93, 63, 65])))]), o 3 (.build [(.s []), (.s []), (.s [])] [(0, 3, (.t 2))]), o 1 (.alloc (.ag [(.s []), (.s []), (.s [])])), u (.store (some 3) (.t 1) (.t 3))]) 
  (.seq (.region [o 4 (.sliceArr 1 (some 3) (.t 1) none none), m 0 4]) .ret))))⟩
def c22 : AFunc := ⟨0, 5, [(0, none)], (some 
  (.seq (.region [o 0 (.mv (.c .nilsl))]) 
  (.seq (.region [o 2 (.build [(.s []), (.s []), (.s [])] [(0, 1, (.c (.s [100, 105, 97, 53]))), (1, 1, (.c (.s [60, 62, 63, 65]))), (2, 1, (.c (.s [91, 93, 60, 62, 63, 65])))]), o 3 (.build [(.s []), (.s []), (.s [])] [(0, 3, (.t 2))]), o 1 (.alloc (.ag [(.s []), (.s []), (.s [])])), u (.store (some 3) (.t 1) (.t 3))]) 
  (.seq (.region [o 4 (.sliceArr 1 (some 3) (.t 1) none none), m 0 4]) .ret))))⟩
def c23 : AFunc := ⟨0, 20, [(0, none)], (some 
  (.seq (.region [o 0 (.mv (.c .nilsl))]) 
  (.seq (.region [o 2 (.build [(.s []), (.s []), (.s [])] [(0, 1, (.c (.s [110, 101, 120, 116, 73, 48]))), (1, 1, (.c (.s [99, 108, 111, 115, 101, 100, 32, 63, 68]))), (2, 1, (.c (.s [110, 101, 120, 116, 32, 63, 68])))]), o 3 (.build [(.s []), (.s []), (.s [])] [(0, 1, (.c (.s [110, 101, 120, 116, 73, 49]))), (1, 1, (.c (.s [110, 101, 120, 116, 32, 63, 65, 59, 32, 99, 108, 111, 115, 101, 100, 32, 123, 63, 65, 125, 32, 63, 68]))), (2, 1, (.c (.s [110, 101, 120, 116, 32, 63, 68])))]), o 4 (.build [(.s []), (.s []), (.s [])] [(0, 1, (.c (.s [110, 101, 120, 116, 73, 50]))), (1, 1, (.c (.s [110, 101, 120, 116, 32, 63, 65, 59, 32, 110, 101, 120, 116, 32, 63, 66, 59, 32, 99, 108, 111, 115, 101, 100, 32, 123, 63, 65, 59, 32, 63, 66, 125, 32, 63, 68]))), (2, 1, (.c (.s [110, 101, 120, 116, 32, 63, 68])))]), o 5 (.build [(.s []), (.s []), (.s [])] [(0, 1, (.c (.s [110, 101, 120, 116, 73, 51]))), (1, 1, (.c (.s [110, 101, 120, 116, 32, 63, 65, 59, 32, 110, 101, 120, 116, 32, 63, 66, 59, 32, 110, 101, 120, 116, 32, 63, 67, 59, 32, 99, 108, 111, 115, 101, 100, 32, 123, 63, 65, 59, 32, 63, 66, 59, 32, 63, 67, 125, 32, 63, 68]))), (2, 1, (.c (.s [110, 101, 120, 116, 32, 63, 68])))]), o 6 (.build [(.s []), (.s []), (.s [])] [(0, 1, (.c (.s [110, 101, 120, 116, 78, 49]))), (1, 1, (.c (.s [126, 110, 101, 120, 116, 32, 63, 65]))), (2, 1, (.c (.s [110, 101, 120, 116, 32, 126, 63, 65])))]), o 7 (.build [(.s []), (.s []), (.s [])] [(0, 1, (.c (.s [110, 101, 120, 116, 78, 50]))), (1, 1, (.c (.s [110, 101, 120, 116, 32, 126, 63, 65]))), (2, 1, (.c (.s [126, 110, 101, 120, 116, 32, 63, 65])))]), o 8 (.build [(.s []), (.s []), (.s [])] [(0, 1, (.c (.s [97, 108, 119, 73, 48]))), (1, 1, (.c (.s [99, 108, 111, 115, 101, 100, 32, 63, 68]))), (2, 1, (.c (.s [97, 108, 119, 97, 121, 115, 32, 63, 68])))]), o 9 (.build [(.s []), (.s []), (.s [])] [(0, 1, (.c (.s [97, 108, 119, 73, 49]))), (1, 1, (.c (.s [97, 108, 119, 97, 121, 115, 32, 63, 65, 59, 32, 99, 108, 111, 115, 101, 100, 32, 123, 63, 65, 125, 32, 63, 68]))), (2, 1, (.c (.s [97, 108, 119, 97, 121, 115, 32, 63, 68])))]), o 10 (.build [(.s []), (.s []), (.s [])] [(0, 1, (.c (.s [97, 108, 119, 73, 50]))), (1, 1, (.c (.s [97, 108, 119, 97, 121, 115, 32, 63, 65, 59, 32, 97, 108, 119, 97, 121, 115, 32, 63, 66, 59, 32, 99, 108, 111, 115, 101, 100, 32, 123, 63, 65, 59, 32, 63, 66, 125, 32, 63, 68]))), (2, 1, (.c (.s [97, 108, 119, 97, 121, 115, 32, 63, 68])))]), o 11 (.build [(.s []), (.s []), (.s [])] [(0, 1, (.c (.s [97, 108, 119, 73, 51]))), (1, 1, (.c (.s [97, 108, 119, 97, 121, 115, 32, 63, 65, 59, 32, 97, 108, 119, 97, 121, 115, 32, 63, 66, 59, 32, 97, 108, 119, 97, 121, 115, 32, 63, 67, 59, 32, 99, 108, 111, 115, 101, 100, 32, 123, 63, 65, 59, 32, 63, 66, 59, 32, 63, 67, 125, 32, 63, 68]))), (2, 1, (.c (.s [97, 108, 119, 97, 121, 115, 32, 63, 68])))]), o 12 (.build [(.s []), (.s []), (.s [])] [(0, 1, (.c (.s [97, 108, 119, 69]))), (1, 1, (.c (.s [97, 108, 119, 97, 121, 115, 32, 63, 65]))), (2, 1, (.c (.s [63, 65])))]), o 13 (.build [(.s []), (.s []), (.s [])] [(0, 1, (.c (.s [97, 108, 119, 88]))), (1, 1, (.c (.s [97, 108, 119, 97, 121, 115, 32, 63, 65]))), (2, 1, (.c (.s [110, 101, 120, 116, 32, 97, 108, 119, 97, 121, 115, 32, 63, 65])))]), o 14 (.build [(.s []), (.s []), (.s [])] [(0, 1, (.c (.s [105, 110, 100]))), (1, 1, (.c (.s [63, 65, 59, 32, 99, 108, 111, 115, 101, 100, 32, 123, 63, 65, 125, 32, 110, 101, 120, 116, 32, 63, 65]))), (2, 1, (.c (.s [97, 108, 119, 97, 121, 115, 32, 63, 65])))]), o 15 (.build [(.s []), (.s []), (.s [])] [(0, 1, (.c (.s [117, 110, 116, 73, 49]))), (1, 1, (.c (.s [63, 66]))), (2, 1, (.c (.s [63, 65, 32, 117, 110, 116, 105, 108, 32, 63, 66])))]), o 16 (.build [(.s []), (.s []), (.s [])] [(0, 1, (.c (.s [117, 110, 116, 73, 50]))), (1, 1, (.c (.s [63, 65, 59, 32, 110, 101, 120, 116, 32, 40, 63, 65, 32, 117, 110, 116, 105, 108, 32, 63, 66, 41]))), (2, 1, (.c (.s [63, 65, 32, 117, 110, 116, 105, 108, 32, 63, 66])))]), o 17 (.build [(.s []), (.s []), (.s [])] [(0, 1, (.c (.s [117, 110, 116, 69]))), (1, 1, (.c (.s [63, 65, 32, 117, 110, 116, 105, 108, 32, 63, 66, 59, 32, 99, 108, 111, 115, 101, 100, 32, 123, 63, 66, 125, 32, 63, 67, 59, 32, 99, 108, 111, 115, 101, 100, 32, 123, 63, 65, 59, 32, 110, 101, 120, 116, 32, 63, 67, 125, 32, 63, 67]))), (2, 1, (.c (.s [63, 67])))]), o 18 (.build [(.s []), (.s []), (.s []), (.s []), (.s []), (.s []), (.s []), (.s []), (.s []), (.s []), (.s []), (.s []), (.s []), (.s []), (.s []), (.s []), (.s []), (.s []), (.s []), (.s []), (.s []), (.s []), (.s []), (.s []), (.s []), (.s []), (.s []), (.s []), (.s []), (.s []), (.s []), (.s []), (.s []), (.s []), (.s []), (.s []), (.s []), (.s []), (.s []), (.s []), (.s []), (.s []), (.s []), (.s []), (.s []), (.s []), (.s []), (.s [])] [(0, 3, (.t 2)), (3, 3, (.t 3)), (6, 3, (.t 4)), (9, 3, (.t 5)), (12, 3, (.t 6)), (15, 3, (.t 7)), (18, 3, (.t 8)), (21, 3, (.t 9)), (24, 3, (.t 10)), (27, 3, (.t 11)), (30, 3, (.t 12)), (33, 3, (.t 13)), (36, 3, (.t 14)), (39, 3, (.t 15)), (42, 3, (.t 16)), (45, 3, (.t 17))]), o 1 (.alloc (.ag [(.s []), (.s []), (.s []), (.s []), (.s []), (.s []), (.s []), (.s []), (.s []), (.s []), (.s []), (.s []), (.s []), (.s []), (.s []), (.s []), (.s []), (.s []), (.s []), (.s []), (.s []), (.s []), (.s []), (.s []), (.s []), (.s []), (.s []), (.s []), (.s []), (.s []), (.s []), (.s []), (.s []), (.s []), (.s []), (.s []), (.s []), (.s []), (.s []), (.s []), (.s []), (.s []), (.s []), (.s []), (.s []), (.s []), (.s []), (.s [])])), u (.store (some 48) (.t 1) (.t 18))]) 
  (.seq (.region [o 19 (.sliceArr 16 (some 3) (.t 1) none none), m 0 19]) .ret))))⟩
def c24 : AFunc := ⟨1, 13, [(2, none)], (some 
  (.seq (.region [o 2 (.mv (.c (.i .u32 0)))]) 
  (.seq 
  (.seq (.region [m 3 0]) (.block 0 
  (.seq 
  (.seq (.region [o 5 (.bin .eql (.t 3) (.c (.i .u8 1))), m 4 5]) (.cond (.t 4) .skip (.region [o 6 (.bin .eql (.t 3) (.c (.i .u8 3))), m 4 6]))) (.cond (.t 4) 
  (.seq (.region [o 2 (.mv (.c (.i .u32 254)))]) .ret) 
  (.seq (.region [o 8 (.bin .eql (.t 3) (.c (.i .u8 2))), m 7 8]) (.cond (.t 7) 
  (.seq (.region [o 2 (.mv (.c (.i .u32 1022)))]) .ret) 
  (.seq (.region [o 10 (.bin .eql (.t 3) (.c (.i .u8 4))), m 9 10]) (.cond (.t 9) 
  (.seq (.region [o 2 (.mv (.c (.i .u32 3326)))]) .ret) 
  (.seq (.region [o 12 (.bin .eql (.t 3) (.c (.i .u8 5))), m 11 12]) (.cond (.t 11) 
  (.seq (.region [o 2 (.mv (.c (.i .u32 28926)))]) .ret) .skip)))))))))) 
  (.seq (.region [o 2 (.mv (.c (.i .u32 0)))]) .ret))))⟩
def c25 : AFunc := ⟨1, 51, [(2, none)], (some 
  (.seq (.region [o 2 (.mv (.c (.b false)))]) 
  (.seq 
  (.seq (.region [m 6 0, o 7 (.len 0 (.t 6)), o 8 (.bin .lss (.t 7) (.c (.i .i64 1))), m 9 8, ⟨(some 10), .mv (.t 0), (some (9, false)), []⟩, ⟨(some 11), .len 0 (.t 10), (some (9, false)), []⟩, ⟨(some 12), .bin .gtr (.t 11) (.c (.i .i64 16)), (some (9, false)), []⟩, o 13 (.pick (.t 9) (.c (.b true)) (.t 12))]) (.cond (.t 13) 
  (.seq (.region [o 2 (.mv (.c (.b false)))]) .ret) .skip)) 
  (.seq 
  (.seq (.region [o 3 (.mv (.c (.i .i64 0)))]) (.block 0 (.loop 
  (.seq 
  (.seq (.region [m 14 3, m 15 0, o 16 (.len 0 (.t 15)), o 17 (.bin .lss (.t 14) (.t 16))]) (.cond (.t 17) .skip (.exit 0))) 
  (.seq (.block 1 
  (.seq (.region [m 20 0, m 21 3, o 22 (.indexStr (.t 20) (.t 21)), m 4 22]) 
  (.seq (.region [m 23 4, o 24 (.bin .geq (.t 23) (.c (.i .u8 97))), m 25 24, ⟨(some 26), .mv (.t 4), (some (25, true)), []⟩, ⟨(some 27), .bin .leq (.t 26) (.c (.i .u8 122)), (some (25, true)), []⟩, o 28 (.pick (.t 25) (.t 27) (.c (.b false))), m 29 28, ⟨(some 30), .mv (.t 4), (some (29, false)), []⟩, ⟨(some 31), .bin .geq (.t 30) (.c (.i .u8 65)), (some (29, false)), []⟩, ⟨(some 32), .mv (.t 31), (some (29, false)), []⟩, ⟨(some 33), .mv (.t 4), (some (32, true)), []⟩, ⟨(some 34), .bin .leq (.t 33) (.c (.i .u8 90)), (some (32, true)), []⟩, ⟨(some 35), .pick (.t 32) (.t 34) (.c (.b false)), (some (29, false)), []⟩, o 36 (.pick (.t 29) (.c (.b true)) (.t 35)), m 5 36]) 
  (.seq (.region [m 37 5, o 38 (.not (.t 37)), m 39 38, ⟨(some 40), .mv (.t 3), (some (39, true)), []⟩, ⟨(some 41), .bin .eql (.t 40) (.c (.i .i64 0)), (some (39, true)), []⟩, ⟨(some 42), .mv (.t 41), (some (39, true)), []⟩, ⟨(some 43), .mv (.t 4), (some (42, false)), []⟩, ⟨(some 44), .bin .lss (.t 43) (.c (.i .u8 48)), (some (42, false)), []⟩, ⟨(some 45), .pick (.t 42) (.c (.b true)) (.t 44), (some (39, true)), []⟩, ⟨(some 46), .mv (.t 45), (some (39, true)), []⟩, ⟨(some 47), .mv (.t 4), (some (46, false)), []⟩, ⟨(some 48), .bin .gtr (.t 47) (.c (.i .u8 57)), (some (46, false)), []⟩, ⟨(some 49), .pick (.t 46) (.c (.b true)) (.t 48), (some (39, true)), []⟩, o 50 (.pick (.t 39) (.t 49) (.c (.b false)))]) (.cond (.t 50) 
  (.seq (.region [o 2 (.mv (.c (.b false)))]) .ret) .skip))))) (.region [m 18 3, o 19 (.bin .add (.t 18) (.c (.i .i64 1))), m 3 19])))))) 
  (.seq (.region [o 2 (.mv (.c (.b true)))]) .ret)))))⟩
def c26 : AFunc := ⟨1, 76, [(2, (some none))], (some 
  (.seq (.region [o 1 (.box (.t 0)), o 2 (.alloc (.b false))]) 
  (.seq 
  (.seq (.region [o 10 (.fieldAddr 0 none (.t 1)), o 11 (.load none (.t 10)), o 12 (.call (.fn 45) [(.t 11)]), o 13 (.not (.t 12)), m 14 13, ⟨(some 15), .fieldAddr 1 none (.t 1), (some (14, false)), []⟩, ⟨(some 16), .load none (.t 15), (some (14, false)), []⟩, ⟨(some 17), .len 1 (.t 16), (some (14, false)), []⟩, ⟨(some 18), .bin .gtr (.t 17) (.c (.i .i64 4)), (some (14, false)), []⟩, o 19 (.pick (.t 14) (.c (.b true)) (.t 18)), m 20 19, ⟨(some 21), .fieldAddr 2 (some 4) (.t 1), (some (20, false)), []⟩, ⟨(some 22), .load (some 4) (.t 21), (some (20, false)), []⟩, ⟨(some 23), .call (.fn 46) [(.t 22)], (some (20, false)), []⟩, ⟨(some 24), .not (.t 23), (some (20, false)), []⟩, o 25 (.pick (.t 20) (.c (.b true)) (.t 24))]) (.cond (.t 25) 
  (.seq (.region [u (.store none (.t 2) (.c (.b false)))]) .ret) .skip)) 
  (.seq (.region [o 26 (.mkMap), o 3 (.alloc (.m none)), u (.store none (.t 3) (.t 26))]) 
  (.seq (.region [o 27 (.fieldAddr 2 (some 4) (.t 1)), o 28 (.load (some 4) (.t 27)), o 29 (.load none (.t 3)), o 30 (.call (.fn 47) [(.t 28), (.t 29)])]) 
  (.seq 
  (.seq (.region [o 31 (.fieldAddr 1 none (.t 1)), o 32 (.load none (.t 31)), o 33 (.len 1 (.t 32)), o 34 (.mv (.c (.i .i64 0)))]) (.block 0 (.loop 
  (.seq (.region [o 35 (.bin .lss (.t 34) (.t 33))]) 
  (.seq (.cond (.t 35) .skip (.exit 0)) 
  (.seq (.block 1 
  (.seq (.region [o 36 (.idxSl (some 7) (.t 32) (.t 34)), o 37 (.load (some 7) (.t 36)), o 5 (.alloc (.ag [.nilsl, (.i .u8 0), (.s []), .nilsl, .nilsl, (.s []), (.b false)])), u (.store (some 7) (.t 5) (.t 37))]) 
  (.seq 
  (.seq (.region [o 38 (.fieldAddr 0 none (.t 5)), o 39 (.load none (.t 38)), o 40 (.len 1 (.t 39)), o 41 (.bin .gtr (.t 40) (.c (.i .i64 3)))]) (.cond (.t 41) 
  (.seq (.region [u (.store none (.t 2) (.c (.b false)))]) .ret) .skip)) 
  (.seq 
  (.seq (.region [o 42 (.load (some 7) (.t 5)), o 43 (.call (.fn 48) [(.t 42)])]) (.block 2 (.rangeFunc (.t 43) [44] (.region [o 6 (.alloc (.ag [(.i .u8 0), (.s []), .nilsl, .nilsl])), u (.store (some 4) (.t 6) (.t 44))]) (.block 3 
  (.seq (.region [o 45 (.load (some 4) (.t 6)), o 46 (.call (.fn 46) [(.t 45)]), o 47 (.not (.t 46))]) (.cond (.t 47) 
  (.seq (.region [u (.store none (.t 2) (.c (.b false)))]) .ret) .skip)))))) 
  (.seq 
  (.seq (.region [o 48 (.load (some 7) (.t 5)), o 49 (.call (.fn 49) [(.t 48)]), o 50 (.not (.t 49))]) (.cond (.t 50) 
  (.seq (.region [u (.store none (.t 2) (.c (.b false)))]) .ret) .skip)) (.region [o 51 (.fieldAddr 1 (some 4) (.t 5)), o 52 (.load (some 4) (.t 51)), o 53 (.load none (.t 3)), o 54 (.call (.fn 47) [(.t 52), (.t 53)])])))))) (.region [o 55 (.bin .add (.t 34) (.c (.i .i64 1))), m 34 55]))))))) 
  (.seq 
  (.seq (.region [o 56 (.fieldAddr 2 (some 4) (.t 1)), o 57 (.load (some 4) (.t 56)), o 58 (.load none (.t 3)), o 59 (.call (.fn 50) [(.t 57), (.t 58)]), o 60 (.not (.t 59))]) (.cond (.t 60) 
  (.seq (.region [u (.store none (.t 2) (.c (.b false)))]) .ret) .skip)) 
  (.seq 
  (.seq (.region [o 61 (.fieldAddr 1 none (.t 1)), o 62 (.load none (.t 61)), o 63 (.len 1 (.t 62)), o 64 (.mv (.c (.i .i64 0)))]) (.block 4 (.loop 
  (.seq (.region [o 65 (.bin .lss (.t 64) (.t 63))]) 
  (.seq (.cond (.t 65) .skip (.exit 4)) 
  (.seq (.block 5 
  (.seq (.region [o 66 (.idxSl (some 7) (.t 62) (.t 64)), o 67 (.load (some 7) (.t 66)), o 8 (.alloc (.ag [.nilsl, (.i .u8 0), (.s []), .nilsl, .nilsl, (.s []), (.b false)])), u (.store (some 7) (.t 8) (.t 67))]) 
  (.seq (.region [o 68 (.load (some 7) (.t 8)), o 69 (.call (.fn 48) [(.t 68)])]) (.block 6 (.rangeFunc (.t 69) [70] (.region [o 9 (.alloc (.ag [(.i .u8 0), (.s []), .nilsl, .nilsl])), u (.store (some 4) (.t 9) (.t 70))]) (.block 7 
  (.seq (.region [o 71 (.load (some 4) (.t 9)), o 72 (.load none (.t 3)), o 73 (.call (.fn 50) [(.t 71), (.t 72)]), o 74 (.not (.t 73))]) (.cond (.t 74) 
  (.seq (.region [u (.store none (.t 2) (.c (.b false)))]) .ret) .skip)))))))) (.region [o 75 (.bin .add (.t 64) (.c (.i .i64 1))), m 64 75]))))))) 
  (.seq (.region [u (.store none (.t 2) (.c (.b true)))]) .ret)))))))))⟩
def c27 : AFunc := ⟨2, 42, [(4, none)], (some 
  (.seq (.region [o 2 (.box (.t 0)), o 4 (.mv (.c (.b false)))]) 
  (.seq (.region [o 10 (.fieldAddr 2 (some 4) (.t 2)), o 11 (.load (some 4) (.t 10)), o 12 (.call (.fn 51) [(.t 11)]), m 5 12]) 
  (.seq 
  (.seq (.region [o 13 (.fieldAddr 1 none (.t 2)), o 14 (.load none (.t 13)), o 15 (.len 1 (.t 14)), o 16 (.mv (.c (.i .i64 0)))]) (.block 0 (.loop 
  (.seq (.region [o 17 (.bin .lss (.t 16) (.t 15))]) 
  (.seq (.cond (.t 17) .skip (.exit 0)) 
  (.seq (.block 1 
  (.seq (.region [o 18 (.idxSl (some 7) (.t 14) (.t 16)), o 19 (.load (some 7) (.t 18)), o 7 (.alloc (.ag [.nilsl, (.i .u8 0), (.s []), .nilsl, .nilsl, (.s []), (.b false)])), u (.store (some 7) (.t 7) (.t 19))]) 
  (.seq (.region [m 20 5, o 21 (.fieldAddr 1 (some 4) (.t 7)), o 22 (.load (some 4) (.t 21)), o 23 (.call (.fn 51) [(.t 22)]), o 24 (.bin .or (.t 20) (.t 23)), m 5 24]) 
  (.seq (.region [o 25 (.fieldAddr 0 none (.t 7)), o 26 (.load none (.t 25)), o 27 (.len 1 (.t 26)), o 28 (.mv (.c (.i .i64 0)))]) (.block 2 (.loop 
  (.seq (.region [o 29 (.bin .lss (.t 28) (.t 27))]) 
  (.seq (.cond (.t 29) .skip (.exit 2)) 
  (.seq (.block 3 
  (.seq (.region [o 30 (.idxSl (some 4) (.t 26) (.t 28)), o 31 (.load (some 4) (.t 30)), o 9 (.alloc (.ag [(.i .u8 0), (.s []), .nilsl, .nilsl])), u (.store (some 4) (.t 9) (.t 31))]) (.region [m 32 5, o 33 (.load (some 4) (.t 9)), o 34 (.call (.fn 51) [(.t 33)]), o 35 (.bin .or (.t 32) (.t 34)), m 5 35]))) (.region [o 36 (.bin .add (.t 28) (.c (.i .i64 1))), m 28 36])))))))))) (.region [o 37 (.bin .add (.t 16) (.c (.i .i64 1))), m 16 37]))))))) 
  (.seq (.region [m 38 5, m 39 1, o 40 (.bin .andNot (.t 38) (.t 39)), o 41 (.bin .eql (.t 40) (.c (.i .u32 0))), m 4 41]) .ret)))))⟩
def c28 : AFunc := ⟨1, 11, [(2, none)], (some 
  (.seq (.region [o 1 (.box (.t 0)), o 2 (.mv (.c .nilsl))]) 
  (.seq (.region [o 4 (.mkMap), m 3 4]) 
  (.seq (.region [o 5 (.load (some 4) (.t 1)), m 6 3, o 7 (.call (.fn 52) [(.t 5), (.t 6)])]) 
  (.seq (.region [m 8 3, o 9 (.call (.fn 54) [(.t 8)]), o 10 (.call (.fn 53) [(.t 9)]), m 2 10]) .ret)))))⟩
def c29 : AFunc := ⟨2, 202, [(4, none)], (some (.seq (.region [⟨(some 2), .box (.t 0), none, []⟩, ⟨(some 4), .mv (.c .nilsl), none, []⟩]) (.seq (.region [⟨(some 5), .mv (.c .nilsl), none, []⟩]) (.seq (.seq (.region [⟨(some 19), .fieldAddr 2 none (.t 2), none, []⟩, ⟨(some 20), .load none (.t 19), none, []⟩]) (.block 0 (.seq (.seq (.region [⟨(some 22), .bin .eql (.t 20) (.c (.i .u8 1)), none, []⟩, ⟨(some 21), .mv (.t 22), none, []⟩]) (.cond (.t 21) .skip (.region [⟨(some 23), .bin .eql (.t 20) (.c (.i .u8 2)), none, []⟩, ⟨(some 21), .mv (.t 23), none, []⟩]))) (.cond (.t 21) (.seq (.region [⟨(some 24), .buildSlice none 1 [(.i .i64 0)] [(0, (.c (.i .i64 1)))], none, []⟩, ⟨(some 25), .fieldAddr 2 none (.t 2), none, []⟩, ⟨(some 26), .load none (.t 25), none, []⟩, ⟨(some 27), .build [(.i .i64 0), .nilsl, (.i .u8 0)] [(0, 1, (.c (.i .i64 1))), (1, 1, (.t 24)), (2, 1, (.t 26))], none, []⟩, ⟨(some 28), .buildSlice (some 3) 1 [(.i .i64 0), .nilsl, (.i .u8 0)] [(0, (.t 27))], none, []⟩, ⟨(some 4), .mv (.t 28), none, []⟩]) .ret) (.seq (.region [⟨(some 30), .bin .eql (.t 20) (.c (.i .u8 5)), none, []⟩, ⟨(some 29), .mv (.t 30), none, []⟩]) (.cond (.t 29) (.seq (.seq (.region [⟨(some 31), .mv (.t 1), none, []⟩, ⟨(some 32), .mv (.c (.i .i64 0)), none, []⟩]) (.block 1 (.loop (.seq (.region [⟨(some 33), .bin .lss (.t 32) (.t 31), none, []⟩]) (.seq (.cond (.t 33) .skip (.exit 1)) (.seq (.block 2 (.seq (.region [⟨(some 34), .mv (.t 32), none, []⟩, ⟨(some 6), .mv (.t 34), none, []⟩]) (.seq (.region [⟨(some 35), .mv (.t 1), none, []⟩, ⟨(some 36), .mkSlice none 8 [(.i .i64 0)] (.t 35) (.t 35), none, []⟩, ⟨(some 7), .mv (.t 36), none, []⟩]) (.seq (.seq (.region [⟨(some 37), .mv (.t 1), none, []⟩, ⟨(some 38), .mv (.c (.i .i64 0)), none, []⟩]) (.block 3 (.loop (.seq (.region [⟨(some 39), .bin .lss (.t 38) (.t 37), none, []⟩]) (.seq (.cond (.t 39) .skip (.exit 3)) (.seq (.block 4 (.seq (.region [⟨(some 40), .mv (.t 38), none, []⟩, ⟨(some 8), .mv (.t 40), none, []⟩]) (.seq (.region [⟨(some 41), .mv (.t 8), none, []⟩, ⟨(some 42), .bin .add (.t 41) (.c (.i .i64 1)), none, []⟩, ⟨(some 9), .mv (.t 42), none, []⟩]) (.seq (.seq (.region [⟨(some 43), .mv (.t 9), none, []⟩, ⟨(some 44), .mv (.t 1), none, []⟩, ⟨(some 45), .bin .eql (.t 43) (.t 44), none, []⟩]) (.cond (.t 45) (.region [⟨(some 46), .mv (.t 6), none, []⟩, ⟨(some 9), .mv (.t 46), none, []⟩]) .skip)) (.region [⟨(some 47), .mv (.t 7), none, []⟩, ⟨(some 48), .mv (.t 8), none, []⟩, ⟨(some 49), .mv (.t 9), none, []⟩, ⟨(some 50), .bin .shl (.c (.i .i64 1)) (.t 49), none, []⟩, ⟨(some 51), .idxSl none (.t 47) (.t 48), none, []⟩, ⟨none, .store none (.t 51) (.t 50), none, []⟩]))))) (.region [⟨(some 52), .bin .add (.t 38) (.c (.i .i64 1)), none, []⟩, ⟨(some 38), .mv (.t 52), none, []⟩]))))))) (.region [⟨(some 53), .mv (.t 5), none, []⟩, ⟨(some 54), .mv (.t 1), none, []⟩, ⟨(some 55), .mv (.t 7), none, []⟩, ⟨(some 56), .fieldAddr 2 none (.t 2), none, []⟩, ⟨(some 57), .load none (.t 56), none, []⟩, ⟨(some 58), .build [(.i .i64 0), .nilsl, (.i .u8 0)] [(0, 1, (.t 54)), (1, 1, (.t 55)), (2, 1, (.t 57))], none, []⟩, ⟨(some 59), .buildSlice (some 3) 1 [(.i .i64 0), .nilsl, (.i .u8 0)] [(0, (.t 58))], none, []⟩, ⟨(some 60), .append (some 3) 40 (.t 53) (.t 59), none, []⟩, ⟨(some 5), .mv (.t 60), none, []⟩]))))) (.region [⟨(some 61), .bin .add (.t 32) (.c (.i .i64 1)), none, []⟩, ⟨(some 32), .mv (.t 61), none, []⟩]))))))) (.seq (.region [⟨(some 62), .mv (.t 5), none, []⟩, ⟨(some 4), .mv (.t 62), none, []⟩]) .ret)) .skip)))))) (.seq (.seq (.region [⟨(some 63), .mv (.t 1), none, []⟩, ⟨(some 64), .mv (.t 1), none, []⟩, ⟨(some 65), .bin .mul (.t 63) (.t 64), none, []⟩, ⟨(some 66), .bin .shl (.c (.i .i64 1)) (.t 65), none, []⟩, ⟨(some 67), .mv (.c (.i .i64 0)), none, []⟩]) (.block 5 (.loop (.seq (.region [⟨(some 68), .bin .lss (.t 67) (.t 66), none, []⟩]) (.seq (.cond (.t 68) .skip (.exit 5)) (.seq (.block 6 (.seq (.region [⟨(some 69), .mv (.t 67), none, []⟩, ⟨(some 10), .mv (.t 69), none, []⟩]) (.seq (.region [⟨(some 70), .mv (.t 1), none, []⟩, ⟨(some 71), .mkSlice none 8 [(.i .i64 0)] (.t 70) (.t 70), none, []⟩, ⟨(some 11), .alloc .nilsl, none, []⟩, ⟨none, .store none (.t 11) (.t 71), none, []⟩]) (.seq (.seq (.region [⟨(some 72), .mv (.t 1), none, []⟩, ⟨(some 73), .mv (.c (.i .i64 0)), none, []⟩]) (.block 7 (.loop (.seq (.region [⟨(some 74), .bin .lss (.t 73) (.t 72), none, []⟩]) (.seq (.cond (.t 74) .skip (.exit 7)) (.seq (.block 8 (.seq (.region [⟨(some 75), .mv (.t 73), none, []⟩, ⟨(some 12), .mv (.t 75), none, []⟩]) (.draw [⟨(some 76), .load none (.t 11), none, []⟩, ⟨(some 77), .mv (.t 12), none, []⟩, ⟨(some 78), .mv (.t 10), none, []⟩, ⟨(some 79), .mv (.t 12), none, []⟩, ⟨(some 80), .mv (.t 1), none, []⟩, ⟨(some 81), .bin .mul (.t 79) (.t 80), none, []⟩, ⟨(some 82), .bin .shr (.t 78) (.t 81), none, []⟩, ⟨(some 83), .mv (.t 1), none, []⟩, ⟨(some 84), .bin .shl (.c (.i .i64 1)) (.t 83), none, []⟩, ⟨(some 85), .bin .sub (.t 84) (.c (.i .i64 1)), none, []⟩, ⟨(some 86), .bin .and (.t 82) (.t 85), none, []⟩, ⟨(some 87), .idxSl none (.t 76) (.t 77), none, []⟩, ⟨none, .store none (.t 87) (.t 86), none, []⟩]))) (.region [⟨(some 88), .bin .add (.t 73) (.c (.i .i64 1)), none, []⟩, ⟨(some 73), .mv (.t 88), none, []⟩]))))))) (.seq (.region [⟨(some 89), .mkFunc (.func 55) [] [(.t 11)], none, []⟩, ⟨(some 13), .mv (.t 89), none, []⟩]) (.seq (.region [⟨(some 90), .fieldAddr 3 none (.t 2), none, []⟩, ⟨(some 91), .load none (.t 90), none, []⟩, ⟨(some 14), .mv (.t 91), none, []⟩]) (.seq (.seq (.region [⟨(some 92), .fieldAddr 2 none (.t 2), none, []⟩, ⟨(some 93), .load none (.t 92), none, []⟩, ⟨(some 94), .bin .eql (.t 93) (.c (.i .u8 3)), none, []⟩]) (.cond (.t 94) (.region [⟨(some 14), .mv (.c (.i .u8 3)), none, []⟩]) .skip)) (.seq (.region [⟨(some 15), .mv (.c (.b true)), none, []⟩]) (.seq (.seq (.region [⟨(some 95), .mv (.t 1), none, []⟩, ⟨(some 96), .mv (.c (.i .i64 0)), none, []⟩]) (.block 9 (.loop (.seq (.region [⟨(some 97), .bin .lss (.t 96) (.t 95), none, []⟩]) (.seq (.cond (.t 97) .skip (.exit 9)) (.seq (.block 10 (.seq (.region [⟨(some 98), .mv (.t 96), none, []⟩, ⟨(some 16), .mv (.t 98), none, []⟩]) (.seq (.region [⟨(some 99), .mv (.t 15), none, []⟩, ⟨(some 100), .mv (.t 99), none, []⟩, ⟨(some 101), .mv (.t 14), (some (100, true)), []⟩, ⟨(some 102), .bin .and (.t 101) (.c (.i .u8 1)), (some (100, true)), []⟩, ⟨(some 103), .bin .eql (.t 102) (.c (.i .u8 0)), (some (100, true)), []⟩, ⟨(some 104), .mv (.t 103), (some (100, true)), []⟩, ⟨(some 105), .mv (.t 13), (some (104, false)), []⟩, ⟨(some 106), .mv (.t 16), (some (104, false)), []⟩, ⟨(some 107), .mv (.t 16), (some (104, false)), []⟩, ⟨(some 108), .call (.val (.t 105)) [(.t 106), (.t 107)], (some (104, false)), []⟩, ⟨(some 109), .pick (.t 104) (.c (.b true)) (.t 108), (some (100, true)), []⟩, ⟨(some 110), .pick (.t 100) (.t 109) (.c (.b false)), none, []⟩, ⟨(some 15), .mv (.t 110), none, []⟩]) (.seq (.region [⟨(some 111), .mv (.t 1), none, []⟩, ⟨(some 112), .mv (.c (.i .i64 0)), none, []⟩]) (.block 11 (.loop (.seq (.region [⟨(some 113), .bin .lss (.t 112) (.t 111), none, []⟩]) (.seq (.cond (.t 113) .skip (.exit 11)) (.seq (.block 12 (.seq (.region [⟨(some 114), .mv (.t 112), none, []⟩, ⟨(some 17), .mv (.t 114), none, []⟩]) (.seq (.region [⟨(some 115), .mv (.t 15), none, []⟩, ⟨(some 116), .mv (.t 115), none, []⟩, ⟨(some 117), .mv (.t 14), (some (116, true)), []⟩, ⟨(some 118), .bin .and (.t 117) (.c (.i .u8 4)), (some (116, true)), []⟩, ⟨(some 119), .bin .eql (.t 118) (.c (.i .u8 0)), (some (116, true)), []⟩, ⟨(some 120), .mv (.t 119), (some (116, true)), []⟩, ⟨(some 121), .mv (.t 13), (some (120, false)), []⟩, ⟨(some 122), .mv (.t 16), (some (120, false)), []⟩, ⟨(some 123), .mv (.t 17), (some (120, false)), []⟩, ⟨(some 124), .call (.val (.t 121)) [(.t 122), (.t 123)], (some (120, false)), []⟩, ⟨(some 125), .not (.t 124), (some (120, false)), []⟩, ⟨(some 126), .pick (.t 120) (.c (.b true)) (.t 125), (some (116, true)), []⟩, ⟨(some 127), .mv (.t 126), (some (116, true)), []⟩, ⟨(some 128), .mv (.t 13), (some (127, false)), []⟩, ⟨(some 129), .mv (.t 17), (some (127, false)), []⟩, ⟨(some 130), .mv (.t 16), (some (127, false)), []⟩, ⟨(some 131), .call (.val (.t 128)) [(.t 129), (.t 130)], (some (127, false)), []⟩, ⟨(some 132), .pick (.t 127) (.c (.b true)) (.t 131), (some (116, true)), []⟩, ⟨(some 133), .pick (.t 116) (.t 132) (.c (.b false)), none, []⟩, ⟨(some 134), .mv (.t 133), none, []⟩, ⟨(some 135), .fieldAddr 2 none (.t 2), (some (134, true)), []⟩, ⟨(some 136), .load none (.t 135), (some (134, true)), []⟩, ⟨(some 137), .bin .neq (.t 136) (.c (.i .u8 3)), (some (134, true)), []⟩, ⟨(some 138), .mv (.t 137), (some (134, true)), []⟩, ⟨(some 139), .mv (.t 16), (some (138, false)), []⟩, ⟨(some 140), .mv (.t 17), (some (138, false)), []⟩, ⟨(some 141), .bin .eql (.t 139) (.t 140), (some (138, false)), []⟩, ⟨(some 142), .pick (.t 138) (.c (.b true)) (.t 141), (some (134, true)), []⟩, ⟨(some 143), .mv (.t 142), (some (134, true)), []⟩, ⟨(some 144), .mv (.t 13), (some (143, false)), []⟩, ⟨(some 145), .mv (.t 16), (some (143, false)), []⟩, ⟨(some 146), .mv (.t 17), (some (143, false)), []⟩, ⟨(some 147), .call (.val (.t 144)) [(.t 145), (.t 146)], (some (143, false)), []⟩, ⟨(some 148), .not (.t 147), (some (143, false)), []⟩, ⟨(some 149), .pick (.t 143) (.c (.b true)) (.t 148), (some (134, true)), []⟩, ⟨(some 150), .mv (.t 149), (some (134, true)), []⟩, ⟨(some 151), .mv (.t 13), (some (150, false)), []⟩, ⟨(some 152), .mv (.t 17), (some (150, false)), []⟩, ⟨(some 153), .mv (.t 16), (some (150, false)), []⟩, ⟨(some 154), .call (.val (.t 151)) [(.t 152), (.t 153)], (some (150, false)), []⟩, ⟨(some 155), .not (.t 154), (some (150, false)), []⟩, ⟨(some 156), .pick (.t 150) (.c (.b true)) (.t 155), (some (134, true)), []⟩, ⟨(some 157), .pick (.t 134) (.t 156) (.c (.b false)), none, []⟩, ⟨(some 15), .mv (.t 157), none, []⟩]) (.seq (.region [⟨(some 158), .mv (.t 1), none, []⟩, ⟨(some 159), .mv (.c (.i .i64 0)), none, []⟩]) (.block 13 (.loop (.seq (.region [⟨(some 160), .bin .lss (.t 159) (.t 158), none, []⟩]) (.seq (.cond (.t 160) .skip (.exit 13)) (.seq (.block 14 (.seq (.region [⟨(some 161), .mv (.t 159), none, []⟩, ⟨(some 18), .mv (.t 161), none, []⟩]) (.region [⟨(some 162), .mv (.t 15), none, []⟩, ⟨(some 163), .mv (.t 162), none, []⟩, ⟨(some 164), .mv (.t 14), (some (163, true)), []⟩, ⟨(some 165), .bin .and (.t 164) (.c (.i .u8 2)), (some (163, true)), []⟩, ⟨(some 166), .bin .eql (.t 165) (.c (.i .u8 0)), (some (163, true)), []⟩, ⟨(some 167), .mv (.t 166), (some (163, true)), []⟩, ⟨(some 168), .mv (.t 13), (some (167, false)), []⟩, ⟨(some 169), .mv (.t 16), (some (167, false)), []⟩, ⟨(some 170), .mv (.t 17), (some (167, false)), []⟩, ⟨(some 171), .call (.val (.t 168)) [(.t 169), (.t 170)], (some (167, false)), []⟩, ⟨(some 172), .not (.t 171), (some (167, false)), []⟩, ⟨(some 173), .pick (.t 167) (.c (.b true)) (.t 172), (some (163, true)), []⟩, ⟨(some 174), .mv (.t 173), (some (163, true)), []⟩, ⟨(some 175), .mv (.t 13), (some (174, false)), []⟩, ⟨(some 176), .mv (.t 17), (some (174, false)), []⟩, ⟨(some 177), .mv (.t 18), (some (174, false)), []⟩, ⟨(some 178), .call (.val (.t 175)) [(.t 176), (.t 177)], (some (174, false)), []⟩, ⟨(some 179), .not (.t 178), (some (174, false)), []⟩, ⟨(some 180), .pick (.t 174) (.c (.b true)) (.t 179), (some (163, true)), []⟩, ⟨(some 181), .mv (.t 180), (some (163, true)), []⟩, ⟨(some 182), .mv (.t 13), (some (181, false)), []⟩, ⟨(some 183), .mv (.t 16), (some (181, false)), []⟩, ⟨(some 184), .mv (.t 18), (some (181, false)), []⟩, ⟨(some 185), .call (.val (.t 182)) [(.t 183), (.t 184)], (some (181, false)), []⟩, ⟨(some 186), .pick (.t 181) (.c (.b true)) (.t 185), (some (163, true)), []⟩, ⟨(some 187), .pick (.t 163) (.t 186) (.c (.b false)), none, []⟩, ⟨(some 15), .mv (.t 187), none, []⟩]))) (.region [⟨(some 188), .bin .add (.t 159) (.c (.i .i64 1)), none, []⟩, ⟨(some 159), .mv (.t 188), none, []⟩])))))))))) (.region [⟨(some 189), .bin .add (.t 112) (.c (.i .i64 1)), none, []⟩, ⟨(some 112), .mv (.t 189), none, []⟩])))))))))) (.region [⟨(some 190), .bin .add (.t 96) (.c (.i .i64 1)), none, []⟩, ⟨(some 96), .mv (.t 190), none, []⟩]))))))) (.seq (.region [⟨(some 191), .mv (.t 15), none, []⟩]) (.cond (.t 191) (.region [⟨(some 192), .mv (.t 5), none, []⟩, ⟨(some 193), .mv (.t 1), none, []⟩, ⟨(some 194), .load none (.t 11), none, []⟩, ⟨(some 195), .fieldAddr 2 none (.t 2), none, []⟩, ⟨(some 196), .load none (.t 195), none, []⟩, ⟨(some 197), .build [(.i .i64 0), .nilsl, (.i .u8 0)] [(0, 1, (.t 193)), (1, 1, (.t 194)), (2, 1, (.t 196))], none, []⟩, ⟨(some 198), .buildSlice (some 3) 1 [(.i .i64 0), .nilsl, (.i .u8 0)] [(0, (.t 197))], none, []⟩, ⟨(some 199), .append (some 3) 40 (.t 192) (.t 198), none, []⟩, ⟨(some 5), .mv (.t 199), none, []⟩]) .skip))))))))))) (.region [⟨(some 200), .bin .add (.t 67) (.c (.i .i64 1)), none, []⟩, ⟨(some 67), .mv (.t 200), none, []⟩]))))))) (.seq (.region [⟨(some 201), .mv (.t 5), none, []⟩, ⟨(some 4), .mv (.t 201), none, []⟩]) .ret))))))⟩
def c30 : AFunc := ⟨1, 7, [(2, none)], (some (.seq (.region [⟨(some 1), .box (.t 0), none, []⟩, ⟨(some 2), .mv (.c (.i .i64 0)), none, []⟩]) (.seq (.region [⟨(some 3), .fieldAddr 0 none (.t 1), none, []⟩, ⟨(some 4), .load none (.t 3), none, []⟩, ⟨(some 5), .bin .shl (.c (.i .i64 1)) (.t 4), none, []⟩, ⟨(some 6), .bin .sub (.t 5) (.c (.i .i64 1)), none, []⟩, ⟨(some 2), .mv (.t 6), none, []⟩]) .ret)))⟩
def c31 : AFunc := ⟨2, 26, [(4, none)], (some (.seq (.region [⟨(some 2), .box (.t 0), none, []⟩, ⟨(some 4), .mv (.c (.i .i64 0)), none, []⟩]) (.seq (.region [⟨(some 5), .mv (.c (.i .i64 0)), none, []⟩]) (.seq (.seq (.region [⟨(some 7), .fieldAddr 0 none (.t 2), none, []⟩, ⟨(some 8), .load none (.t 7), none, []⟩, ⟨(some 9), .mv (.c (.i .i64 0)), none, []⟩]) (.block 0 (.loop (.seq (.region [⟨(some 10), .bin .lss (.t 9) (.t 8), none, []⟩]) (.seq (.cond (.t 10) .skip (.exit 0)) (.seq (.block 1 (.seq (.region [⟨(some 11), .mv (.t 9), none, []⟩, ⟨(some 6), .mv (.t 11), none, []⟩]) (.seq (.region [⟨(some 12), .fieldAddr 1 none (.t 2), none, []⟩, ⟨(some 13), .load none (.t 12), none, []⟩, ⟨(some 14), .mv (.t 6), none, []⟩, ⟨(some 15), .idxSl none (.t 13) (.t 14), none, []⟩, ⟨(some 16), .load none (.t 15), none, []⟩, ⟨(some 17), .mv (.t 1), none, []⟩, ⟨(some 18), .bin .andNot (.t 16) (.t 17), none, []⟩, ⟨(some 19), .bin .eql (.t 18) (.c (.i .i64 0)), none, []⟩]) (.cond (.t 19) (.region [⟨(some 20), .mv (.t 5), none, []⟩, ⟨(some 21), .mv (.t 6), none, []⟩, ⟨(some 22), .bin .shl (.c (.i .i64 1)) (.t 21), none, []⟩, ⟨(some 23), .bin .or (.t 20) (.t 22), none, []⟩, ⟨(some 5), .mv (.t 23), none, []⟩]) .skip)))) (.region [⟨(some 24), .bin .add (.t 9) (.c (.i .i64 1)), none, []⟩, ⟨(some 9), .mv (.t 24), none, []⟩]))))))) (.seq (.region [⟨(some 25), .mv (.t 5), none, []⟩, ⟨(some 4), .mv (.t 25), none, []⟩]) .ret)))))⟩
def c32 : AFunc := ⟨3, 80, [(6, none)], (some (.seq (.region [⟨(some 3), .box (.t 0), none, []⟩, ⟨(some 4), .box (.t 1), none, []⟩, ⟨(some 5), .box (.t 2), none, []⟩, ⟨(some 6), .mv (.c (.b false)), none, []⟩]) (.seq (.region [⟨(some 14), .load (some 3) (.t 3), none, []⟩, ⟨(some 15), .call (.fn 30) [(.t 14)], none, []⟩, ⟨(some 7), .mv (.t 15), none, []⟩]) (.seq (.seq (.region [⟨(some 16), .fieldAddr 1 none (.t 4), none, []⟩, ⟨(some 17), .load none (.t 16), none, []⟩, ⟨(some 18), .len 1 (.t 17), none, []⟩, ⟨(some 19), .mv (.c (.i .i64 0)), none, []⟩]) (.block 0 (.loop (.seq (.region [⟨(some 20), .bin .lss (.t 19) (.t 18), none, []⟩]) (.seq (.cond (.t 20) .skip (.exit 0)) (.seq (.block 1 (.seq (.region [⟨(some 21), .idxSl (some 7) (.t 17) (.t 19), none, []⟩, ⟨(some 22), .load (some 7) (.t 21), none, []⟩, ⟨(some 9), .alloc (.ag [.nilsl, (.i .u8 0), (.s []), .nilsl, .nilsl, (.s []), (.b false)]), none, []⟩, ⟨none, .store (some 7) (.t 9) (.t 22), none, []⟩]) (.seq (.region [⟨(some 23), .load (some 3) (.t 3), none, []⟩, ⟨(some 24), .call (.fn 30) [(.t 23)], none, []⟩, ⟨(some 10), .mv (.t 24), none, []⟩]) (.seq (.seq (.region [⟨(some 25), .fieldAddr 0 none (.t 9), none, []⟩, ⟨(some 26), .load none (.t 25), none, []⟩, ⟨(some 27), .len 1 (.t 26), none, []⟩, ⟨(some 28), .mv (.c (.i .i64 0)), none, []⟩]) (.block 2 (.loop (.seq (.region [⟨(some 29), .bin .lss (.t 28) (.t 27), none, []⟩]) (.seq (.cond (.t 29) .skip (.exit 2)) (.seq (.block 3 (.seq (.region [⟨(some 30), .idxSl (some 4) (.t 26) (.t 28), none, []⟩, ⟨(some 31), .load (some 4) (.t 30), none, []⟩, ⟨(some 12), .alloc (.ag [(.i .u8 0), (.s []), .nilsl, .nilsl]), none, []⟩, ⟨none, .store (some 4) (.t 12) (.t 31), none, []⟩]) (.region [⟨(some 32), .mv (.t 10), none, []⟩, ⟨(some 33), .load (some 3) (.t 3), none, []⟩, ⟨(some 34), .load (some 4) (.t 12), none, []⟩, ⟨(some 35), .load (some 4) (.t 5), none, []⟩, ⟨(some 36), .call (.fn 56) [(.t 33), (.t 34), (.t 35)], none, []⟩, ⟨(some 37), .bin .and (.t 32) (.t 36), none, []⟩, ⟨(some 10), .mv (.t 37), none, []⟩]))) (.region [⟨(some 38), .bin .add (.t 28) (.c (.i .i64 1)), none, []⟩, ⟨(some 28), .mv (.t 38), none, []⟩]))))))) (.seq (.draw [⟨(some 39), .load (some 3) (.t 3), none, []⟩, ⟨(some 41), .mv (.t 10), none, []⟩, ⟨(some 43), .load (some 3) (.t 3), none, [8]⟩, ⟨(some 44), .fieldAddr 1 (some 4) (.t 9), none, []⟩, ⟨(some 45), .load (some 4) (.t 44), none, [8]⟩, ⟨(some 46), .load (some 4) (.t 5), none, [8]⟩, ⟨(some 40), .call (.fn 30) [(.t 39)], none, []⟩, ⟨(some 42), .bin .andNot (.t 40) (.t 41), none, []⟩, ⟨(some 47), .call (.fn 56) [(.t 43), (.t 45), (.t 46)], none, []⟩, ⟨(some 48), .bin .or (.t 42) (.t 47), none, []⟩, ⟨(some 13), .mv (.t 48), none, []⟩]) (.seq (.block 4 (.seq (.region [⟨(some 50), .fieldAddr 6 none (.t 9), none, []⟩, ⟨(some 51), .load none (.t 50), none, []⟩, ⟨(some 52), .mv (.t 51), none, []⟩, ⟨(some 53), .mv (.t 13), (some (52, true)), []⟩, ⟨(some 54), .load (some 3) (.t 3), (some (52, true)), []⟩, ⟨(some 55), .call (.fn 30) [(.t 54)], (some (52, true)), []⟩, ⟨(some 56), .bin .neq (.t 53) (.t 55), (some (52, true)), []⟩, ⟨(some 57), .pick (.t 52) (.t 56) (.c (.b false)), none, []⟩, ⟨(some 49), .mv (.t 57), none, []⟩]) (.cond (.t 49) (.seq (.region [⟨(some 6), .mv (.c (.b true)), none, []⟩]) .ret) (.seq (.region [⟨(some 59), .fieldAddr 6 none (.t 9), none, []⟩, ⟨(some 60), .load none (.t 59), none, []⟩, ⟨(some 58), .mv (.t 60), none, []⟩]) (.cond (.t 58) (.exit 1) (.seq (.region [⟨(some 62), .fieldAddr 2 none (.t 3), none, []⟩, ⟨(some 63), .load none (.t 62), none, []⟩, ⟨(some 64), .bin .eql (.t 63) (.c (.i .u8 3)), none, []⟩, ⟨(some 61), .mv (.t 64), none, []⟩]) (.cond (.t 61) (.region [⟨(some 65), .load (some 3) (.t 3), none, []⟩, ⟨(some 66), .mv (.t 13), none, []⟩, ⟨(some 67), .call (.fn 31) [(.t 65), (.t 66)], none, []⟩, ⟨(some 13), .mv (.t 67), none, []⟩]) .skip))))))) (.region [⟨(some 68), .mv (.t 7), none, []⟩, ⟨(some 69), .mv (.t 13), none, []⟩, ⟨(some 70), .bin .and (.t 68) (.t 69), none, []⟩, ⟨(some 7), .mv (.t 70), none, []⟩]))))))) (.region [⟨(some 71), .bin .add (.t 19) (.c (.i .i64 1)), none, []⟩, ⟨(some 19), .mv (.t 71), none, []⟩]))))))) (.seq (.region [⟨(some 72), .mv (.t 7), none, []⟩, ⟨(some 73), .load (some 3) (.t 3), none, []⟩, ⟨(some 74), .fieldAddr 2 (some 4) (.t 4), none, []⟩, ⟨(some 75), .load (some 4) (.t 74), none, []⟩, ⟨(some 76), .load (some 4) (.t 5), none, []⟩, ⟨(some 77), .call (.fn 56) [(.t 73), (.t 75), (.t 76)], none, []⟩, ⟨(some 78), .bin .andNot (.t 72) (.t 77), none, []⟩, ⟨(some 79), .bin .eql (.t 78) (.c (.i .i64 0)), none, []⟩, ⟨(some 6), .mv (.t 79), none, []⟩]) .ret)))))⟩
def c33 : AFunc := ⟨2, 43, [(4, none), (5, none)], (some 
  (.seq (.region [o 2 (.box (.t 0)), o 3 (.box (.t 1)), o 4 (.mv (.c .nilsl)), o 5 (.mv (.c (.i .i64 0)))]) 
  (.seq 
  (.seq (.region [o 11 (.load (some 5) (.t 2)), o 12 (.load (some 4) (.t 3)), o 13 (.call (.fn 13) [(.t 11), (.t 12)]), o 14 (.not (.t 13))]) (.cond (.t 14) 
  (.seq (.region [o 4 (.mv (.c .nilsl)), o 5 (.mv (.c (.i .i64 2)))]) .ret) .skip)) 
  (.seq (.region [o 6 (.mv (.c .nilsl))]) 
  (.seq 
  (.seq (.region [o 15 (.fieldAddr 4 none (.t 2)), o 16 (.load none (.t 15)), o 17 (.len 1 (.t 16)), o 18 (.mv (.c (.i .i64 0)))]) (.block 0 (.loop 
  (.seq (.region [o 19 (.bin .lss (.t 18) (.t 17))]) 
  (.seq (.cond (.t 19) .skip (.exit 0)) 
  (.seq (.block 1 
  (.seq (.region [o 20 (.idxSl (some 6) (.t 16) (.t 18)), o 21 (.load (some 6) (.t 20)), o 8 (.alloc (.ag [(.s []), .nilsl, (.i .u8 0), (.s []), .nilsl, .nilsl])), u (.store (some 6) (.t 8) (.t 21))]) 
  (.seq (.region [o 23 (.fieldAddr 2 (some 4) (.t 8)), o 24 (.load (some 4) (.t 23)), o 25 (.load (some 4) (.t 3)), o 26 (.build [.nilsl, .nilsl] []), o 27 (.call (.fn 57) [(.t 24), (.t 25), (.t 26)]), m 22 27, o 28 (.extract (.t 22) 0), o 29 (.extract (.t 22) 1), o 9 (.alloc (.ag [.nilsl, .nilsl])), u (.store (some 2) (.t 9) (.t 28)), m 10 29]) 
  (.seq (.region [m 30 10, o 31 (.bin .eql (.t 30) (.c (.i .i64 0))), m 32 31, ⟨(some 33), .mv (.t 10), (some (32, false)), []⟩, ⟨(some 34), .bin .eql (.t 33) (.c (.i .i64 71)), (some (32, false)), []⟩, o 35 (.pick (.t 32) (.c (.b true)) (.t 34))]) (.cond (.t 35) (.region [m 36 6, o 37 (.fieldAddr 0 none (.t 8)), o 38 (.load none (.t 37)), o 39 (.buildSlice none 1 [(.s [])] [(0, (.t 38))]), o 40 (.append none 16 (.t 36) (.t 39)), m 6 40]) .skip))))) (.region [o 41 (.bin .add (.t 18) (.c (.i .i64 1))), m 18 41]))))))) 
  (.seq (.region [m 42 6, m 4 42, o 5 (.mv (.c (.i .i64 0)))]) .ret))))))⟩
def c34 : AFunc := ⟨2, 8, [(4, (some (some 4)))], (some 
  (.seq (.region [o 4 (.alloc (.ag [(.i .u8 0), (.s []), .nilsl, .nilsl]))]) 
  (.seq (.region [m 5 0, m 6 1, o 7 (.build [(.i .u8 0), (.s []), .nilsl, .nilsl] [(0, 1, (.t 5)), (3, 1, (.t 6))]), u (.store (some 4) (.t 4) (.t 7))]) .ret)))⟩
def c35 : AFunc := ⟨2, 8, [(4, (some (some 4)))], (some 
  (.seq (.region [o 4 (.alloc (.ag [(.i .u8 0), (.s []), .nilsl, .nilsl]))]) 
  (.seq (.region [m 5 0, m 6 1, o 7 (.build [(.i .u8 0), (.s []), .nilsl, .nilsl] [(0, 1, (.c (.i .u8 1))), (1, 1, (.t 5)), (2, 1, (.t 6))]), u (.store (some 4) (.t 4) (.t 7))]) .ret)))⟩
def c36 : AFunc := ⟨2, 26, [(4, none)], (some 
  (.seq (.region [o 4 (.mv (.c (.b false)))]) 
  (.seq 
  (.seq (.region [m 6 0, o 7 (.len 1 (.t 6)), m 8 1, o 9 (.len 1 (.t 8)), o 10 (.bin .neq (.t 7) (.t 9))]) (.cond (.t 10) 
  (.seq (.region [o 4 (.mv (.c (.b false)))]) .ret) .skip)) 
  (.seq 
  (.seq (.region [o 5 (.mv (.c (.i .i64 0)))]) (.block 0 (.loop 
  (.seq 
  (.seq (.region [m 11 5, m 12 0, o 13 (.len 1 (.t 12)), o 14 (.bin .lss (.t 11) (.t 13))]) (.cond (.t 14) .skip (.exit 0))) 
  (.seq (.block 1 
  (.seq (.draw [m 17 0, m 18 5, o 19 (.idxSl none (.t 17) (.t 18)), o 20 (.load none (.t 19)), m 21 1, m 22 5, o 23 (.idxSl none (.t 21) (.t 22)), o 24 (.load none (.t 23)), o 25 (.bin .neq (.t 20) (.t 24))]) (.cond (.t 25) 
  (.seq (.region [o 4 (.mv (.c (.b false)))]) .ret) .skip))) (.region [m 15 5, o 16 (.bin .add (.t 15) (.c (.i .i64 1))), m 5 16])))))) 
  (.seq (.region [o 4 (.mv (.c (.b true)))]) .ret)))))⟩
def c40 : AFunc := ⟨2, 21, [(4, none)], (some 
  (.seq (.region [o 2 (.box (.t 0)), o 3 (.box (.t 1)), o 4 (.mv (.c (.b false)))]) 
  (.seq (.draw [o 5 (.load (some 4) (.t 3)), o 6 (.call (.fn 60) [(.t 5)]), m 7 6, ⟨(some 8), .load (some 4) (.t 3), (some (7, true)), []⟩, ⟨(some 10), .fieldAddr 1 none (.t 2), (some (7, true)), []⟩, ⟨(some 11), .load none (.t 10), (some (7, true)), [14]⟩, ⟨(some 9), .call (.fn 51) [(.t 8)], (some (7, true)), []⟩, ⟨(some 12), .bin .andNot (.t 9) (.t 11), (some (7, true)), []⟩, ⟨(some 13), .bin .eql (.t 12) (.c (.i .u32 0)), (some (7, true)), []⟩, o 14 (.pick (.t 7) (.t 13) (.c (.b false))), m 15 14, ⟨(some 16), .fieldAddr 2 none (.t 2), (some (15, true)), []⟩, ⟨(some 17), .load none (.t 16), (some (15, true)), []⟩, ⟨(some 18), .load (some 4) (.t 3), (some (15, true)), []⟩, ⟨(some 19), .call (.fn 61) [(.t 17), (.t 18)], (some (15, true)), []⟩, o 20 (.pick (.t 15) (.t 19) (.c (.b false))), m 4 20]) .ret)))⟩
def c42 : AFunc := ⟨1, 13, [(2, (some (some 4)))], (some 
  (.seq (.region [o 2 (.alloc (.ag [(.i .u8 0), (.s []), .nilsl, .nilsl]))]) 
  (.seq (.region [m 7 0, o 8 (.call (.fn 64) [(.t 7)]), m 6 8, o 9 (.extract (.t 6) 0), o 10 (.extract (.t 6) 1), o 11 (.extract (.t 6) 2), o 3 (.alloc (.ag [(.i .u8 0), (.s []), .nilsl, .nilsl])), u (.store (some 4) (.t 3) (.t 9)), m 4 10, m 5 11]) 
  (.seq (.region [o 12 (.load (some 4) (.t 3)), u (.store (some 4) (.t 2) (.t 12))]) .ret))))⟩
def c43 : AFunc := ⟨1, 4, [(2, none)], (some (.seq (.region [o 1 (.box (.t 0)), o 2 (.mv (.c .nf))]) (.seq (.region [o 3 (.mkFunc (.func 65) [] [(.t 1)]), m 2 3]) .ret)))⟩
def c44 : AFunc := ⟨1, 60, [(2, (some (some 7)))], (some 
  (.seq (.region [o 2 (.alloc (.ag [.nilsl, (.i .u8 0), (.s []), .nilsl, .nilsl, (.s []), (.b false)]))]) 
  (.seq (.region [o 3 (.alloc (.ag [.nilsl, (.i .u8 0), (.s []), .nilsl, .nilsl, (.s []), (.b false)]))]) 
  (.seq (.region [m 13 0, o 14 (.call (.fn 67) [(.t 13), (.c (.s [99, 108, 111, 115, 101, 100, 32]))]), m 12 14, o 15 (.extract (.t 12) 0), o 16 (.extract (.t 12) 1), m 0 15, o 17 (.fieldAddr 6 none (.t 3)), u (.store none (.t 17) (.t 16))]) 
  (.seq 
  (.seq (.region [m 19 0, o 20 (.call (.fn 67) [(.t 19), (.c (.s [102, 114, 101, 115, 104, 32]))]), m 18 20, o 21 (.extract (.t 18) 0), o 22 (.extract (.t 18) 1), m 4 21, m 5 22]) 
  (.seq (.region [m 23 5]) (.cond (.t 23) (.region [m 25 4, o 26 (.call (.fn 68) [(.t 25), (.c (.s [32]))]), m 24 26, o 27 (.extract (.t 24) 0), o 28 (.extract (.t 24) 1), o 29 (.extract (.t 24) 2), o 30 (.fieldAddr 5 none (.t 3)), u (.store none (.t 30) (.t 27)), m 0 28]) .skip))) 
  (.seq 
  (.seq (.region [m 32 0, o 33 (.call (.fn 67) [(.t 32), (.c (.s [123]))]), m 31 33, o 34 (.extract (.t 31) 0), o 35 (.extract (.t 31) 1), m 6 34, m 7 35]) 
  (.seq (.region [m 36 7]) (.cond (.t 36) 
  (.seq (.region [m 38 6, o 39 (.call (.fn 68) [(.t 38), (.c (.s [125]))]), m 37 39, o 40 (.extract (.t 37) 0), o 41 (.extract (.t 37) 1), o 42 (.extract (.t 37) 2), m 8 40, m 9 41, m 10 42]) 
  (.seq 
  (.seq (.region [m 43 8, o 44 (.call (.fn 69) [(.t 43), (.c (.s [59]))])]) (.block 0 (.rangeFunc (.t 44) [45] (.region [m 11 45]) (.block 1 (.draw [o 46 (.fieldAddr 0 none (.t 3)), ⟨(some 47), .load none (.t 46), none, [5, 6]⟩, m 48 11, ⟨(some 50), .len 1 (.t 47), none, [5, 6]⟩, o 51 (.buildSlice (some 4) 1 [(.i .u8 0), (.s []), .nilsl, .nilsl] [(0, (.c (.ag [(.i .u8 0), (.s []), .nilsl, .nilsl])))]), o 49 (.call (.fn 42) [(.t 48)]), o 52 (.append (some 4) 72 (.t 47) (.t 51)), o 53 (.idxSl (some 4) (.t 52) (.t 50)), o 54 (.fieldAddr 0 none (.t 3)), u (.store (some 4) (.t 53) (.t 49)), ⟨none, .store none (.t 54) (.t 52), none, [9]⟩]))))) (.region [m 55 9, m 0 55]))) .skip))) 
  (.seq (.region [m 56 0, o 57 (.call (.fn 42) [(.t 56)]), o 58 (.fieldAddr 1 (some 4) (.t 3)), u (.store (some 4) (.t 58) (.t 57))]) 
  (.seq (.region [o 59 (.load (some 7) (.t 3)), u (.store (some 7) (.t 2) (.t 59))]) .ret))))))))⟩
def c45 : AFunc := ⟨1, 51, [(2, none)], (some 
  (.seq (.region [o 2 (.mv (.c (.b false)))]) 
  (.seq 
  (.seq (.region [m 6 0, o 7 (.len 0 (.t 6)), o 8 (.bin .lss (.t 7) (.c (.i .i64 1))), m 9 8, ⟨(some 10), .mv (.t 0), (some (9, false)), []⟩, ⟨(some 11), .len 0 (.t 10), (some (9, false)), []⟩, ⟨(some 12), .bin .gtr (.t 11) (.c (.i .i64 16)), (some (9, false)), []⟩, o 13 (.pick (.t 9) (.c (.b true)) (.t 12))]) (.cond (.t 13) 
  (.seq (.region [o 2 (.mv (.c (.b false)))]) .ret) .skip)) 
  (.seq 
  (.seq (.region [o 3 (.mv (.c (.i .i64 0)))]) (.block 0 (.loop 
  (.seq 
  (.seq (.region [m 14 3, m 15 0, o 16 (.len 0 (.t 15)), o 17 (.bin .lss (.t 14) (.t 16))]) (.cond (.t 17) .skip (.exit 0))) 
  (.seq (.block 1 
  (.seq (.region [m 20 0, m 21 3, o 22 (.indexStr (.t 20) (.t 21)), m 4 22]) 
  (.seq (.region [m 23 4, o 24 (.bin .geq (.t 23) (.c (.i .u8 97))), m 25 24, ⟨(some 26), .mv (.t 4), (some (25, true)), []⟩, ⟨(some 27), .bin .leq (.t 26) (.c (.i .u8 122)), (some (25, true)), []⟩, o 28 (.pick (.t 25) (.t 27) (.c (.b false))), m 29 28, ⟨(some 30), .mv (.t 4), (some (29, false)), []⟩, ⟨(some 31), .bin .geq (.t 30) (.c (.i .u8 65)), (some (29, false)), []⟩, ⟨(some 32), .mv (.t 31), (some (29, false)), []⟩, ⟨(some 33), .mv (.t 4), (some (32, true)), []⟩, ⟨(some 34), .bin .leq (.t 33) (.c (.i .u8 90)), (some (32, true)), []⟩, ⟨(some 35), .pick (.t 32) (.t 34) (.c (.b false)), (some (29, false)), []⟩, o 36 (.pick (.t 29) (.c (.b true)) (.t 35)), m 5 36]) 
  (.seq (.region [m 37 5, o 38 (.not (.t 37)), m 39 38, ⟨(some 40), .mv (.t 3), (some (39, true)), []⟩, ⟨(some 41), .bin .eql (.t 40) (.c (.i .i64 0)), (some (39, true)), []⟩, ⟨(some 42), .mv (.t 41), (some (39, true)), []⟩, ⟨(some 43), .mv (.t 4), (some (42, false)), []⟩, ⟨(some 44), .bin .lss (.t 43) (.c (.i .u8 48)), (some (42, false)), []⟩, ⟨(some 45), .pick (.t 42) (.c (.b true)) (.t 44), (some (39, true)), []⟩, ⟨(some 46), .mv (.t 45), (some (39, true)), []⟩, ⟨(some 47), .mv (.t 4), (some (46, false)), []⟩, ⟨(some 48), .bin .gtr (.t 47) (.c (.i .u8 57)), (some (46, false)), []⟩, ⟨(some 49), .pick (.t 46) (.c (.b true)) (.t 48), (some (39, true)), []⟩, o 50 (.pick (.t 39) (.t 49) (.c (.b false)))]) (.cond (.t 50) 
  (.seq (.region [o 2 (.mv (.c (.b false)))]) .ret) .skip))))) (.region [m 18 3, o 19 (.bin .add (.t 18) (.c (.i .i64 1))), m 3 19])))))) 
  (.seq (.region [o 2 (.mv (.c (.b true)))]) .ret)))))⟩
def c46 : AFunc := ⟨1, 7, [(2, none)], (some 
  (.seq (.region [o 1 (.box (.t 0)), o 2 (.mv (.c (.b false)))]) 
  (.seq (.region [o 4 (.build [(.b false), (.i .i64 0), (.i .i64 0)] [(0, 1, (.c (.b true))), (1, 1, (.c (.i .i64 400))), (2, 1, (.c (.i .i64 40)))]), o 3 (.alloc (.ag [(.b false), (.i .i64 0), (.i .i64 0)])), u (.store (some 3) (.t 3) (.t 4))]) 
  (.seq (.region [o 5 (.load (some 4) (.t 1)), o 6 (.call (.fn 70) [(.t 3), (.t 5), (.c (.i .i64 1))]), m 2 6]) .ret))))⟩
def c47 : AFunc := ⟨2, 23, [], (some 
  (.seq (.region [o 2 (.box (.t 0))]) 
  (.seq 
  (.seq (.region [o 6 (.fieldAddr 0 none (.t 2)), o 7 (.load none (.t 6)), o 8 (.bin .eql (.t 7) (.c (.i .u8 15)))]) (.cond (.t 8) (.region [m 9 1, o 10 (.fieldAddr 1 none (.t 2)), o 11 (.load none (.t 10)), u (.mapUpd (.inl 1) (.t 9) (.t 11) (.c (.b true)))]) .skip)) 
  (.seq (.region [o 12 (.fieldAddr 3 none (.t 2)), o 13 (.load none (.t 12)), o 14 (.len 1 (.t 13)), o 15 (.mv (.c (.i .i64 0)))]) (.block 0 (.loop 
  (.seq (.region [o 16 (.bin .lss (.t 15) (.t 14))]) 
  (.seq (.cond (.t 16) .skip (.exit 0)) 
  (.seq (.block 1 
  (.seq (.region [o 17 (.idxSl (some 4) (.t 13) (.t 15)), o 18 (.load (some 4) (.t 17)), o 5 (.alloc (.ag [(.i .u8 0), (.s []), .nilsl, .nilsl])), u (.store (some 4) (.t 5) (.t 18))]) (.region [o 19 (.load (some 4) (.t 5)), m 20 1, o 21 (.call (.fn 47) [(.t 19), (.t 20)])]))) (.region [o 22 (.bin .add (.t 15) (.c (.i .i64 1))), m 15 22]))))))))))⟩
def c48 : AFunc := ⟨1, 4, [(2, none)], (some (.seq (.region [o 1 (.box (.t 0)), o 2 (.mv (.c .nf))]) (.seq (.region [o 3 (.mkFunc (.func 71) [] [(.t 1)]), m 2 3]) .ret)))⟩
def c49 : AFunc := ⟨1, 14, [(2, (some none))], (some 
  (.seq (.region [o 1 (.box (.t 0)), o 2 (.alloc (.b false))]) 
  (.seq 
  (.seq (.region [o 4 (.fieldAddr 5 none (.t 1)), o 5 (.load none (.t 4)), o 6 (.bin .eql (.t 5) (.c (.s [])))]) (.cond (.t 6) 
  (.seq (.region [u (.store none (.t 2) (.c (.b true)))]) .ret) .skip)) 
  (.seq 
  (.seq (.region [o 7 (.load (some 7) (.t 1)), o 8 (.call (.fn 48) [(.t 7)])]) (.block 0 (.rangeFunc (.t 8) [9] (.region [o 3 (.alloc (.ag [(.i .u8 0), (.s []), .nilsl, .nilsl])), u (.store (some 4) (.t 3) (.t 9))]) (.block 1 
  (.seq (.region [o 10 (.load (some 4) (.t 3)), o 11 (.fieldAddr 5 none (.t 1)), o 12 (.load none (.t 11)), o 13 (.call (.fn 72) [(.t 10), (.t 12)])]) (.cond (.t 13) 
  (.seq (.region [u (.store none (.t 2) (.c (.b true)))]) .ret) .skip)))))) 
  (.seq (.region [u (.store none (.t 2) (.c (.b false)))]) .ret)))))⟩
def c50 : AFunc := ⟨2, 24, [(4, none)], (some 
  (.seq (.region [o 2 (.box (.t 0)), o 4 (.mv (.c (.b false)))]) 
  (.seq 
  (.seq (.region [o 7 (.load (some 4) (.t 2)), o 8 (.call (.fn 28) [(.t 7)]), o 9 (.len 1 (.t 8)), o 10 (.mv (.c (.i .i64 0)))]) (.block 0 (.loop 
  (.seq (.region [o 11 (.bin .lss (.t 10) (.t 9))]) 
  (.seq (.cond (.t 11) .skip (.exit 0)) 
  (.seq (.block 1 
  (.seq (.region [o 12 (.idxSl none (.t 8) (.t 10)), o 13 (.load none (.t 12)), m 6 13]) 
  (.seq (.region [m 14 6, o 15 (.sliceStr (.t 14) (some (.c (.i .i64 1))) none), o 16 (.call (.fn 73) [(.t 15)]), m 17 16, ⟨(some 18), .mv (.t 1), (some (17, true)), []⟩, ⟨(some 19), .mv (.t 6), (some (17, true)), []⟩, ⟨(some 20), .lookup (.inl 1) (.t 18) (.t 19) (.b false) false, (some (17, true)), []⟩, ⟨(some 21), .not (.t 20), (some (17, true)), []⟩, o 22 (.pick (.t 17) (.t 21) (.c (.b false)))]) (.cond (.t 22) 
  (.seq (.region [o 4 (.mv (.c (.b false)))]) .ret) .skip)))) (.region [o 23 (.bin .add (.t 10) (.c (.i .i64 1))), m 10 23]))))))) 
  (.seq (.region [o 4 (.mv (.c (.b true)))]) .ret))))⟩
def c51 : AFunc := ⟨1, 17, [(2, none)], (some 
  (.seq (.region [o 1 (.box (.t 0)), o 2 (.mv (.c (.i .u32 0)))]) 
  (.seq (.region [o 3 (.alloc (.i .u32 0))]) 
  (.seq 
  (.seq (.region [o 5 (.load (some 4) (.t 1)), o 6 (.call (.fn 74) [(.t 5)])]) (.block 0 (.rangeFunc (.t 6) [7] (.region [o 4 (.alloc (.ag [(.i .u8 0), (.s []), .nilsl, .nilsl])), u (.store (some 4) (.t 4) (.t 7))]) (.block 1 
  (.seq (.region [o 8 (.fieldAddr 0 none (.t 4)), o 9 (.load none (.t 8)), o 10 (.bin .lss (.t 9) (.c (.i .u8 32)))]) (.cond (.t 10) (.region [o 11 (.load none (.t 3)), o 12 (.fieldAddr 0 none (.t 4)), o 13 (.load none (.t 12)), o 14 (.bin .shl (.c (.i .u32 1)) (.t 13)), o 15 (.bin .or (.t 11) (.t 14)), u (.store none (.t 3) (.t 15))]) .skip)))))) 
  (.seq (.region [o 16 (.load none (.t 3)), m 2 16]) .ret)))))⟩
def c52 : AFunc := ⟨2, 37, [], (some 
  (.seq (.region [o 2 (.box (.t 0))]) 
  (.seq 
  (.seq (.region [o 6 (.fieldAddr 0 none (.t 2)), o 7 (.load none (.t 6)), o 8 (.bin .eql (.t 7) (.c (.i .u8 15))), m 9 8, ⟨(some 10), .fieldAddr 0 none (.t 2), (some (9, false)), []⟩, ⟨(some 11), .load none (.t 10), (some (9, false)), []⟩, ⟨(some 12), .bin .eql (.t 11) (.c (.i .u8 16)), (some (9, false)), []⟩, o 13 (.pick (.t 9) (.c (.b true)) (.t 12)), m 14 13, ⟨(some 15), .fieldAddr 1 none (.t 2), (some (14, true)), []⟩, ⟨(some 16), .load none (.t 15), (some (14, true)), []⟩, ⟨(some 17), .call (.fn 75) [(.t 16)], (some (14, true)), []⟩, o 18 (.pick (.t 14) (.t 17) (.c (.b false)))]) (.cond (.t 18) (.region [m 19 1, o 20 (.fieldAddr 1 none (.t 2)), o 21 (.load none (.t 20)), u (.mapUpd (.inl 1) (.t 19) (.t 21) (.c (.b true)))]) .skip)) 
  (.seq (.region [o 22 (.fieldAddr 2 none (.t 2)), o 23 (.load none (.t 22)), m 24 1, o 25 (.call (.fn 76) [(.t 23), (.t 24)])]) 
  (.seq (.region [o 26 (.fieldAddr 3 none (.t 2)), o 27 (.load none (.t 26)), o 28 (.len 1 (.t 27)), o 29 (.mv (.c (.i .i64 0)))]) (.block 0 (.loop 
  (.seq (.region [o 30 (.bin .lss (.t 29) (.t 28))]) 
  (.seq (.cond (.t 30) .skip (.exit 0)) 
  (.seq (.block 1 
  (.seq (.region [o 31 (.idxSl (some 4) (.t 27) (.t 29)), o 32 (.load (some 4) (.t 31)), o 5 (.alloc (.ag [(.i .u8 0), (.s []), .nilsl, .nilsl])), u (.store (some 4) (.t 5) (.t 32))]) (.region [o 33 (.load (some 4) (.t 5)), m 34 1, o 35 (.call (.fn 52) [(.t 33), (.t 34)])]))) (.region [o 36 (.bin .add (.t 29) (.c (.i .i64 1))), m 29 36])))))))))))⟩
def c53 : AFunc := ⟨1, 9, [(2, none)], (some 
  (.seq (.region [o 2 (.mv (.c .nilsl))]) 
  (.seq (.region [m 4 0, o 5 (.call (.fn 77) [(.t 4)]), m 3 5]) 
  (.seq (.region [m 6 3, o 7 (.call (.fn 78) [(.t 6)])]) 
  (.seq (.region [m 8 3, m 2 8]) .ret)))))⟩
def c54 : AFunc := ⟨1, 4, [(2, none)], (some (.seq (.region [o 1 (.box (.t 0)), o 2 (.mv (.c .nf))]) (.seq (.region [o 3 (.mkFunc (.func 79) [] [(.t 1)]), m 2 3]) .ret)))⟩
def c55 : AFunc := ⟨3, 14, [(5, none)], (some (.seq (.region [⟨(some 5), .mv (.c (.b false)), none, []⟩]) (.seq (.region [⟨(some 6), .load none (.t 2), none, []⟩, ⟨(some 7), .mv (.t 0), none, []⟩, ⟨(some 8), .idxSl none (.t 6) (.t 7), none, []⟩, ⟨(some 9), .load none (.t 8), none, []⟩, ⟨(some 10), .mv (.t 1), none, []⟩, ⟨(some 11), .bin .shr (.t 9) (.t 10), none, []⟩, ⟨(some 12), .bin .and (.t 11) (.c (.i .i64 1)), none, []⟩, ⟨(some 13), .bin .eql (.t 12) (.c (.i .i64 1)), none, []⟩, ⟨(some 5), .mv (.t 13), none, []⟩]) .ret)))⟩
def c56 : AFunc := ⟨3, 130, [(6, none)], (some (.seq (.region [⟨(some 3), .box (.t 0), none, []⟩, ⟨(some 4), .box (.t 1), none, []⟩, ⟨(some 5), .box (.t 2), none, []⟩, ⟨(some 6), .mv (.c (.i .i64 0)), none, []⟩]) (.seq (.region [⟨(some 7), .mv (.c (.i .i64 0)), none, []⟩, ⟨(some 8), .mv (.c (.i .i64 0)), none, []⟩]) (.seq (.seq (.region [⟨(some 12), .fieldAddr 3 none (.t 4), none, []⟩, ⟨(some 13), .load none (.t 12), none, []⟩, ⟨(some 14), .len 1 (.t 13), none, []⟩, ⟨(some 15), .bin .gtr (.t 14) (.c (.i .i64 0)), none, []⟩]) (.cond (.t 15) (.draw [⟨(some 16), .load (some 3) (.t 3), none, []⟩, ⟨(some 17), .fieldAddr 3 none (.t 4), none, []⟩, ⟨(some 18), .load none (.t 17), none, []⟩, ⟨(some 19), .idxSl (some 4) (.t 18) (.c (.i .i64 0)), none, []⟩, ⟨(some 20), .load (some 4) (.t 19), none, []⟩, ⟨(some 21), .load (some 4) (.t 5), none, []⟩, ⟨(some 22), .call (.fn 56) [(.t 16), (.t 20), (.t 21)], none, []⟩, ⟨(some 7), .mv (.t 22), none, []⟩]) .skip)) (.seq (.seq (.region [⟨(some 23), .fieldAddr 3 none (.t 4), none, []⟩, ⟨(some 24), .load none (.t 23), none, []⟩, ⟨(some 25), .len 1 (.t 24), none, []⟩, ⟨(some 26), .bin .gtr (.t 25) (.c (.i .i64 1)), none, []⟩]) (.cond (.t 26) (.draw [⟨(some 27), .load (some 3) (.t 3), none, []⟩, ⟨(some 28), .fieldAddr 3 none (.t 4), none, []⟩, ⟨(some 29), .load none (.t 28), none, []⟩, ⟨(some 30), .idxSl (some 4) (.t 29) (.c (.i .i64 1)), none, []⟩, ⟨(some 31), .load (some 4) (.t 30), none, []⟩, ⟨(some 32), .load (some 4) (.t 5), none, []⟩, ⟨(some 33), .call (.fn 56) [(.t 27), (.t 31), (.t 32)], none, []⟩, ⟨(some 8), .mv (.t 33), none, []⟩]) .skip)) (.seq (.region [⟨(some 34), .mkFunc (.func 80) [] [(.t 3)], none, []⟩, ⟨(some 9), .mv (.t 34), none, []⟩]) (.seq (.seq (.region [⟨(some 35), .fieldAddr 0 none (.t 4), none, []⟩, ⟨(some 36), .load none (.t 35), none, []⟩]) (.block 0 (.seq (.region [⟨(some 38), .bin .eql (.t 36) (.c (.i .u8 15)), none, []⟩, ⟨(some 37), .mv (.t 38), none, []⟩]) (.cond (.t 37) (.seq (.region [⟨(some 39), .fieldAddr 1 none (.t 4), none, []⟩, ⟨(some 40), .load none (.t 39), none, []⟩, ⟨(some 41), .indexStr (.t 40) (.c (.i .i64 1)), none, []⟩, ⟨(some 42), .bin .sub (.t 41) (.c (.i .u8 65)), none, []⟩, ⟨(some 43), .idxArr 4 none (.t 5) (.t 42), none, []⟩, ⟨(some 44), .load none (.t 43), none, []⟩, ⟨(some 6), .mv (.t 44), none, []⟩]) .ret) (.seq (.region [⟨(some 46), .bin .eql (.t 36) (.c (.i .u8 3)), none, []⟩, ⟨(some 45), .mv (.t 46), none, []⟩]) (.cond (.t 45) (.seq (.region [⟨(some 47), .mv (.t 9), none, []⟩, ⟨(some 48), .load (some 3) (.t 3), none, []⟩, ⟨(some 49), .call (.fn 30) [(.t 48)], none, []⟩, ⟨(some 50), .mv (.t 7), none, []⟩, ⟨(some 51), .bin .andNot (.t 49) (.t 50), none, []⟩, ⟨(some 52), .call (.val (.t 47)) [(.t 51)], none, []⟩, ⟨(some 6), .mv (.t 52), none, []⟩]) .ret) (.seq (.region [⟨(some 54), .bin .eql (.t 36) (.c (.i .u8 4)), none, []⟩, ⟨(some 53), .mv (.t 54), none, []⟩]) (.cond (.t 53) (.seq (.region [⟨(some 55), .mv (.t 7), none, []⟩, ⟨(some 56), .mv (.t 8), none, []⟩, ⟨(some 57), .bin .and (.t 55) (.t 56), none, []⟩, ⟨(some 6), .mv (.t 57), none, []⟩]) .ret) (.seq (.region [⟨(some 59), .bin .eql (.t 36) (.c (.i .u8 5)), none, []⟩, ⟨(some 58), .mv (.t 59), none, []⟩]) (.cond (.t 58) (.seq (.region [⟨(some 60), .mv (.t 7), none, []⟩, ⟨(some 61), .mv (.t 8), none, []⟩, ⟨(some 62), .bin .or (.t 60) (.t 61), none, []⟩, ⟨(some 6), .mv (.t 62), none, []⟩]) .ret) (.seq (.region [⟨(some 64), .bin .eql (.t 36) (.c (.i .u8 6)), none, []⟩, ⟨(some 63), .mv (.t 64), none, []⟩]) (.cond (.t 63) (.seq (.region [⟨(some 65), .mv (.t 9), none, []⟩, ⟨(some 66), .load (some 3) (.t 3), none, []⟩, ⟨(some 67), .call (.fn 30) [(.t 66)], none, []⟩, ⟨(some 68), .mv (.t 7), none, []⟩, ⟨(some 69), .bin .andNot (.t 67) (.t 68), none, []⟩, ⟨(some 70), .mv (.t 8), none, []⟩, ⟨(some 71), .bin .or (.t 69) (.t 70), none, []⟩, ⟨(some 72), .call (.val (.t 65)) [(.t 71)], none, []⟩, ⟨(some 6), .mv (.t 72), none, []⟩]) .ret) (.seq (.region [⟨(some 74), .bin .eql (.t 36) (.c (.i .u8 7)), none, []⟩, ⟨(some 73), .mv (.t 74), none, []⟩]) (.cond (.t 73) (.seq (.region [⟨(some 75), .mv (.t 9), none, []⟩, ⟨(some 76), .load (some 3) (.t 3), none, []⟩, ⟨(some 77), .call (.fn 30) [(.t 76)], none, []⟩, ⟨(some 78), .mv (.t 7), none, []⟩, ⟨(some 79), .mv (.t 8), none, []⟩, ⟨(some 80), .bin .xor (.t 78) (.t 79), none, []⟩, ⟨(some 81), .bin .andNot (.t 77) (.t 80), none, []⟩, ⟨(some 82), .call (.val (.t 75)) [(.t 81)], none, []⟩, ⟨(some 6), .mv (.t 82), none, []⟩]) .ret) (.seq (.seq (.region [⟨(some 84), .bin .eql (.t 36) (.c (.i .u8 10)), none, []⟩, ⟨(some 83), .mv (.t 84), none, []⟩]) (.cond (.t 83) .skip (.region [⟨(some 85), .bin .eql (.t 36) (.c (.i .u8 12)), none, []⟩, ⟨(some 83), .mv (.t 85), none, []⟩]))) (.cond (.t 83) (.seq (.region [⟨(some 86), .load (some 3) (.t 3), none, []⟩, ⟨(some 87), .mv (.t 7), none, []⟩, ⟨(some 88), .call (.fn 31) [(.t 86), (.t 87)], none, []⟩, ⟨(some 6), .mv (.t 88), none, []⟩]) .ret) (.seq (.region [⟨(some 90), .bin .eql (.t 36) (.c (.i .u8 11)), none, []⟩, ⟨(some 89), .mv (.t 90), none, []⟩]) (.cond (.t 89) (.seq (.draw [⟨(some 91), .load (some 3) (.t 3), none, []⟩, ⟨(some 93), .load (some 3) (.t 3), none, [5, 7]⟩, ⟨(some 94), .load (some 3) (.t 3), none, [5]⟩, ⟨(some 96), .mv (.t 7), none, []⟩, ⟨(some 92), .call (.fn 30) [(.t 91)], none, []⟩, ⟨(some 95), .call (.fn 30) [(.t 94)], none, []⟩, ⟨(some 97), .bin .andNot (.t 95) (.t 96), none, []⟩, ⟨(some 98), .call (.fn 31) [(.t 93), (.t 97)], none, []⟩, ⟨(some 99), .bin .andNot (.t 92) (.t 98), none, []⟩, ⟨(some 6), .mv (.t 99), none, []⟩]) .ret) (.seq (.region [⟨(some 101), .bin .eql (.t 36) (.c (.i .u8 13)), none, []⟩, ⟨(some 100), .mv (.t 101), none, []⟩]) (.cond (.t 100) (.seq (.region [⟨(some 102), .mv (.t 7), none, []⟩, ⟨(some 10), .mv (.t 102), none, []⟩]) (.seq (.seq (.region [⟨(some 103), .fieldAddr 0 none (.t 3), none, []⟩, ⟨(some 104), .load none (.t 103), none, []⟩, ⟨(some 105), .mv (.c (.i .i64 0)), none, []⟩]) (.block 1 (.loop (.seq (.region [⟨(some 106), .bin .lss (.t 105) (.t 104), none, []⟩]) (.seq (.cond (.t 106) .skip (.exit 1)) (.seq (.block 2 (.region [⟨(some 107), .mv (.t 10), none, []⟩, ⟨(some 108), .load (some 3) (.t 3), none, []⟩, ⟨(some 109), .mv (.t 10), none, []⟩, ⟨(some 110), .call (.fn 31) [(.t 108), (.t 109)], none, []⟩, ⟨(some 111), .bin .and (.t 107) (.t 110), none, []⟩, ⟨(some 10), .mv (.t 111), none, []⟩])) (.region [⟨(some 112), .bin .add (.t 105) (.c (.i .i64 1)), none, []⟩, ⟨(some 105), .mv (.t 112), none, []⟩]))))))) (.seq (.region [⟨(some 113), .mv (.t 10), none, []⟩, ⟨(some 6), .mv (.t 113), none, []⟩]) .ret))) (.seq (.region [⟨(some 115), .bin .eql (.t 36) (.c (.i .u8 14)), none, []⟩, ⟨(some 114), .mv (.t 115), none, []⟩]) (.cond (.t 114) (.seq (.region [⟨(some 116), .mv (.t 8), none, []⟩, ⟨(some 11), .mv (.t 116), none, []⟩]) (.seq (.seq (.region [⟨(some 117), .fieldAddr 0 none (.t 3), none, []⟩, ⟨(some 118), .load none (.t 117), none, []⟩, ⟨(some 119), .mv (.c (.i .i64 0)), none, []⟩]) (.block 3 (.loop (.seq (.region [⟨(some 120), .bin .lss (.t 119) (.t 118), none, []⟩]) (.seq (.cond (.t 120) .skip (.exit 3)) (.seq (.block 4 (.region [⟨(some 121), .mv (.t 11), none, []⟩, ⟨(some 122), .mv (.t 7), none, []⟩, ⟨(some 123), .load (some 3) (.t 3), none, []⟩, ⟨(some 124), .mv (.t 11), none, []⟩, ⟨(some 125), .call (.fn 31) [(.t 123), (.t 124)], none, []⟩, ⟨(some 126), .bin .and (.t 122) (.t 125), none, []⟩, ⟨(some 127), .bin .or (.t 121) (.t 126), none, []⟩, ⟨(some 11), .mv (.t 127), none, []⟩])) (.region [⟨(some 128), .bin .add (.t 119) (.c (.i .i64 1)), none, []⟩, ⟨(some 119), .mv (.t 128), none, []⟩]))))))) (.seq (.region [⟨(some 129), .mv (.t 11), none, []⟩, ⟨(some 6), .mv (.t 129), none, []⟩]) .ret))) .skip)))))))))))))))))))))) (.seq (.region [⟨(some 6), .mv (.c (.i .i64 0)), none, []⟩]) .ret))))))))⟩
def c57 : AFunc := ⟨3, 23, [(6, (some (some 2))), (7, none)], (some 
  (.seq (.region [o 3 (.box (.t 0)), o 4 (.box (.t 1)), o 5 (.box (.t 2)), o 6 (.alloc (.ag [.nilsl, .nilsl])), o 7 (.mv (.c (.i .i64 0)))]) 
  (.seq (.region [o 12 (.load (some 4) (.t 3)), o 13 (.load (some 4) (.t 4)), o 14 (.build [(.i .u8 0), (.s []), .nilsl, .nilsl, (.i .u8 0), (.s []), .nilsl, .nilsl] [(0, 4, (.t 12)), (4, 4, (.t 13))]), o 15 (.buildSlice (some 8) 1 [(.i .u8 0), (.s []), .nilsl, .nilsl, (.i .u8 0), (.s []), .nilsl, .nilsl] [(0, (.t 14))]), o 16 (.load (some 2) (.t 5)), o 17 (.call (.fn 81) [(.t 15), (.t 16)]), m 11 17, o 18 (.extract (.t 11) 0), o 19 (.extract (.t 11) 1), o 20 (.extract (.t 11) 2), o 8 (.alloc (.ag [.nilsl, .nilsl])), u (.store (some 2) (.t 8) (.t 18)), m 9 19, m 10 20]) 
  (.seq (.region [o 21 (.load (some 2) (.t 8)), m 22 10, u (.store (some 2) (.t 6) (.t 21)), m 7 22]) .ret))))⟩
def c60 : AFunc := ⟨1, 7, [(2, none)], (some 
  (.seq (.region [o 1 (.box (.t 0)), o 2 (.mv (.c (.b false)))]) 
  (.seq (.region [o 4 (.build [(.b false), (.i .i64 0), (.i .i64 0)] [(1, 1, (.c (.i .i64 400))), (2, 1, (.c (.i .i64 40)))]), o 3 (.alloc (.ag [(.b false), (.i .i64 0), (.i .i64 0)])), u (.store (some 3) (.t 3) (.t 4))]) 
  (.seq (.region [o 5 (.load (some 4) (.t 1)), o 6 (.call (.fn 70) [(.t 3), (.t 5), (.c (.i .i64 1))]), m 2 6]) .ret))))⟩
def c61 : AFunc := ⟨2, 37, [(4, none)], (some 
  (.seq (.region [o 3 (.box (.t 1)), o 4 (.mv (.c (.b false)))]) 
  (.seq (.region [o 5 (.mv (.c (.i .i64 0))), o 6 (.mv (.c (.i .i64 0)))]) 
  (.seq 
  (.seq (.region [m 11 0, o 12 (.bin .eql (.t 11) (.c (.i .u8 2)))]) (.cond (.t 12) (.region [o 5 (.mv (.c (.i .i64 2))), o 6 (.mv (.c (.i .i64 1)))]) .skip)) 
  (.seq 
  (.seq (.region [o 13 (.load (some 4) (.t 3)), o 14 (.call (.fn 82) [(.t 13)]), o 15 (.len 1 (.t 14)), o 16 (.mv (.c (.i .i64 0)))]) (.block 0 (.loop 
  (.seq (.region [o 17 (.bin .lss (.t 16) (.t 15))]) 
  (.seq (.cond (.t 17) .skip (.exit 0)) 
  (.seq (.block 1 
  (.seq (.region [o 18 (.idxSl (some 2) (.t 14) (.t 16)), o 19 (.load (some 2) (.t 18)), o 8 (.alloc (.ag [(.s []), (.i .i64 0)])), u (.store (some 2) (.t 8) (.t 19))]) 
  (.seq (.region [o 20 (.fieldAddr 1 none (.t 8)), o 21 (.load none (.t 20)), m 22 5, o 23 (.bin .gtr (.t 21) (.t 22))]) (.cond (.t 23) 
  (.seq (.region [o 4 (.mv (.c (.b false)))]) .ret) .skip)))) (.region [o 24 (.bin .add (.t 16) (.c (.i .i64 1))), m 16 24]))))))) 
  (.seq 
  (.seq (.region [o 25 (.load (some 4) (.t 3)), o 26 (.call (.fn 83) [(.t 25)]), o 27 (.len 1 (.t 26)), o 28 (.mv (.c (.i .i64 0)))]) (.block 2 (.loop 
  (.seq (.region [o 29 (.bin .lss (.t 28) (.t 27))]) 
  (.seq (.cond (.t 29) .skip (.exit 2)) 
  (.seq (.block 3 
  (.seq (.region [o 30 (.idxSl (some 2) (.t 26) (.t 28)), o 31 (.load (some 2) (.t 30)), o 10 (.alloc (.ag [(.s []), (.i .i64 0)])), u (.store (some 2) (.t 10) (.t 31))]) 
  (.seq (.region [o 32 (.fieldAddr 1 none (.t 10)), o 33 (.load none (.t 32)), m 34 6, o 35 (.bin .gtr (.t 33) (.t 34))]) (.cond (.t 35) 
  (.seq (.region [o 4 (.mv (.c (.b false)))]) .ret) .skip)))) (.region [o 36 (.bin .add (.t 28) (.c (.i .i64 1))), m 28 36]))))))) 
  (.seq (.region [o 4 (.mv (.c (.b true)))]) .ret)))))))⟩
def c64 : AFunc := ⟨1, 25, [(2, (some (some 4))), (3, none), (4, none)], (some 
  (.seq (.region [o 2 (.alloc (.ag [(.i .u8 0), (.s []), .nilsl, .nilsl])), o 3 (.mv (.c (.i .i64 0))), o 4 (.mv (.c (.i .i64 0)))]) 
  (.seq (.region [m 9 0, o 10 (.call (.fn 87) [(.t 9), (.c (.b true)), (.c (.f (.func 88) [] []))]), m 8 10, o 11 (.extract (.t 8) 0), o 12 (.extract (.t 8) 1), o 13 (.extract (.t 8) 2), o 5 (.alloc (.ag [(.i .u8 0), (.s []), .nilsl, .nilsl])), u (.store (some 4) (.t 5) (.t 11)), m 6 12, m 7 13]) 
  (.seq 
  (.seq (.region [m 14 7, o 15 (.bin .eql (.t 14) (.c (.i .i64 0))), m 16 15, ⟨(some 17), .load (some 4) (.t 5), (some (16, true)), []⟩, ⟨(some 18), .call (.fn 46) [(.t 17)], (some (16, true)), []⟩, ⟨(some 19), .not (.t 18), (some (16, true)), []⟩, o 20 (.pick (.t 16) (.t 19) (.c (.b false)))]) (.cond (.t 20) 
  (.seq (.region [o 21 (.build [(.i .u8 0), (.s []), .nilsl, .nilsl] []), u (.store (some 4) (.t 2) (.t 21)), o 3 (.mv (.c (.i .i64 0))), o 4 (.mv (.c (.i .i64 3)))]) .ret) .skip)) 
  (.seq (.region [o 22 (.load (some 4) (.t 5)), m 23 6, m 24 7, u (.store (some 4) (.t 2) (.t 22)), m 3 23, m 4 24]) .ret)))))⟩
def c65 : AFunc := ⟨2, 47, [], (some 
  (.seq (.region [o 3 (.mv (.c (.i .i64 0))), o 4 (.mv (.c (.b false)))]) 
  (.seq (.region [o 5 (.mv (.c (.i .i64 0)))]) (.block 0 (.loop 
  (.seq 
  (.seq (.region [m 6 5, o 7 (.load none (.t 1)), o 8 (.len 0 (.t 7)), o 9 (.bin .leq (.t 6) (.t 8))]) (.cond (.t 9) .skip (.exit 0))) 
  (.seq (.block 1 (.block 2 
  (.seq (.region [m 13 5, o 14 (.load none (.t 1)), o 15 (.len 0 (.t 14)), o 16 (.bin .eql (.t 13) (.t 15)), m 17 16, ⟨(some 18), .load none (.t 1), (some (17, false)), []⟩, ⟨(some 19), .mv (.t 5), (some (17, false)), []⟩, ⟨(some 20), .indexStr (.t 18) (.t 19), (some (17, false)), []⟩, ⟨(some 21), .bin .eql (.t 20) (.c (.i .u8 59)), (some (17, false)), []⟩, ⟨(some 22), .mv (.t 21), (some (17, false)), []⟩, ⟨(some 23), .mv (.t 4), (some (22, true)), []⟩, ⟨(some 24), .not (.t 23), (some (22, true)), []⟩, ⟨(some 25), .pick (.t 22) (.t 24) (.c (.b false)), (some (17, false)), []⟩, o 26 (.pick (.t 17) (.c (.b true)) (.t 25)), m 12 26]) (.cond (.t 12) 
  (.seq 
  (.seq (.region [m 27 0, o 28 (.load none (.t 1)), m 29 3, m 30 5, o 31 (.sliceStr (.t 28) (some (.t 29)) (some (.t 30))), o 32 (.call (.fn 66) [(.t 31)]), o 33 (.call (.val (.t 27)) [(.t 32)]), o 34 (.not (.t 33))]) (.cond (.t 34) .ret .skip)) (.region [m 35 5, o 36 (.bin .add (.t 35) (.c (.i .i64 1))), m 3 36])) 
  (.seq (.region [o 38 (.load none (.t 1)), m 39 5, o 40 (.indexStr (.t 38) (.t 39)), o 41 (.bin .eql (.t 40) (.c (.i .u8 123))), m 37 41]) (.cond (.t 37) (.region [o 4 (.mv (.c (.b true)))]) 
  (.seq (.region [o 43 (.load none (.t 1)), m 44 5, o 45 (.indexStr (.t 43) (.t 44)), o 46 (.bin .eql (.t 45) (.c (.i .u8 125))), m 42 46]) (.cond (.t 42) (.region [o 4 (.mv (.c (.b false)))]) .skip)))))))) (.region [m 10 5, o 11 (.bin .add (.t 10) (.c (.i .i64 1))), m 5 11]))))))))⟩
def c66 : AFunc := ⟨1, 54, [(2, none)], (some 
  (.seq (.region [o 2 (.mv (.c (.s [])))]) 
  (.seq 
  (.seq (.region [m 7 0, o 8 (.strToBytes (.t 7)), o 9 (.len 1 (.t 8)), o 10 (.mv (.c (.i .i64 0)))]) (.block 0 (.loop 
  (.seq (.region [o 11 (.bin .lss (.t 10) (.t 9))]) 
  (.seq (.cond (.t 11) .skip (.exit 0)) 
  (.seq (.block 1 
  (.seq (.region [m 12 10, o 13 (.idxSl none (.t 8) (.t 10)), o 14 (.load none (.t 13)), m 3 12, m 4 14]) 
  (.seq 
  (.seq (.region [m 15 4, o 16 (.bin .geq (.t 15) (.c (.i .u8 128)))]) (.cond (.t 16) 
  (.seq (.region [m 17 0, m 18 3, o 19 (.sliceStr (.t 17) (some (.t 18)) none), o 20 (.call (.fn 89) [(.t 19), (.c (.f (.func 90) [] []))]), m 2 20]) .ret) .skip)) 
  (.seq 
  (.seq (.region [m 21 4, o 22 (.idxArr 256 none (.g 0) (.t 21)), o 23 (.load none (.t 22)), o 24 (.bin .neq (.t 23) (.c (.i .u8 0)))]) (.cond (.t 24) (.exit 1) .skip)) 
  (.seq (.region [m 25 0, m 26 3, o 27 (.sliceStr (.t 25) (some (.t 26)) none), m 0 27]) 
  (.seq (.region [m 28 0, o 29 (.len 0 (.t 28)), o 30 (.bin .sub (.t 29) (.c (.i .i64 1))), m 5 30]) (.block 2 (.loop 
  (.seq 
  (.seq (.region [m 31 5, o 32 (.bin .geq (.t 31) (.c (.i .i64 0)))]) (.cond (.t 32) .skip (.exit 2))) 
  (.seq (.block 3 
  (.seq (.region [m 35 0, m 36 5, o 37 (.indexStr (.t 35) (.t 36)), m 6 37]) 
  (.seq 
  (.seq (.region [m 38 6, o 39 (.bin .geq (.t 38) (.c (.i .u8 128)))]) (.cond (.t 39) 
  (.seq (.region [m 40 0, m 41 5, o 42 (.bin .add (.t 41) (.c (.i .i64 1))), o 43 (.sliceStr (.t 40) none (some (.t 42))), o 44 (.call (.fn 91) [(.t 43), (.c (.f (.func 90) [] []))]), m 2 44]) .ret) .skip)) 
  (.seq (.region [m 45 6, o 46 (.idxArr 256 none (.g 0) (.t 45)), o 47 (.load none (.t 46)), o 48 (.bin .eql (.t 47) (.c (.i .u8 0)))]) (.cond (.t 48) 
  (.seq (.region [m 49 0, m 50 5, o 51 (.bin .add (.t 50) (.c (.i .i64 1))), o 52 (.sliceStr (.t 49) none (some (.t 51))), m 2 52]) .ret) .skip))))) (.region [m 33 5, o 34 (.bin .sub (.t 33) (.c (.i .i64 1))), m 5 34]))))))))))) (.region [o 53 (.bin .add (.t 10) (.c (.i .i64 1))), m 10 53]))))))) 
  (.seq (.region [o 2 (.mv (.c (.s [])))]) .ret))))⟩
def c67 : AFunc := ⟨2, 11, [(4, none), (5, none)], (some 
  (.seq (.region [o 4 (.mv (.c (.s []))), o 5 (.mv (.c (.b false)))]) 
  (.seq (.region [m 6 0, m 7 1, o 8 (.call (.fn 92) [(.t 6), (.t 7)]), o 9 (.extract (.t 8) 0), o 10 (.extract (.t 8) 1), m 4 9, m 5 10]) .ret)))⟩
def c68 : AFunc := ⟨2, 13, [(4, none), (5, none), (6, none)], (some 
  (.seq (.region [o 4 (.mv (.c (.s []))), o 5 (.mv (.c (.s []))), o 6 (.mv (.c (.b false)))]) 
  (.seq (.region [m 7 0, m 8 1, o 9 (.call (.fn 93) [(.t 7), (.t 8)]), o 10 (.extract (.t 9) 0), o 11 (.extract (.t 9) 1), o 12 (.extract (.t 9) 2), m 4 10, m 5 11, m 6 12]) .ret)))⟩
def c69 : AFunc := ⟨2, 8, [(4, none)], (some (.seq (.region [o 4 (.mv (.c .nf))]) (.seq (.region [m 5 0, m 6 1, o 7 (.call (.fn 94) [(.t 5), (.t 6), (.c (.i .i64 0))]), m 4 7]) .ret)))⟩
def c70 : AFunc := ⟨3, 90, [(6, none)], (some 
  (.seq (.region [o 4 (.box (.t 1)), o 6 (.mv (.c (.b false)))]) 
  (.seq 
  (.seq (.region [m 10 0, m 11 2, o 12 (.call (.fn 95) [(.t 10), (.t 11)]), o 13 (.not (.t 12)), m 14 13, ⟨(some 15), .fieldAddr 0 none (.t 4), (some (14, false)), []⟩, ⟨(some 16), .load none (.t 15), (some (14, false)), []⟩, ⟨(some 17), .conv .i64 (.t 16), (some (14, false)), []⟩, ⟨(some 18), .bin .geq (.t 17) (.c (.i .i64 17)), (some (14, false)), []⟩, o 19 (.pick (.t 14) (.c (.b true)) (.t 18))]) (.cond (.t 19) 
  (.seq (.region [o 6 (.mv (.c (.b false)))]) .ret) .skip)) 
  (.seq (.region [o 20 (.fieldAddr 0 none (.t 4)), o 21 (.load none (.t 20)), o 22 (.idxArr 17 (some 5) (.g 1) (.t 21)), o 23 (.load (some 5) (.t 22)), o 7 (.alloc (.ag [(.b false), (.b false), (.i .u8 0), (.i .i64 0), (.i .i64 0)])), u (.store (some 5) (.t 7) (.t 23))]) 
  (.seq 
  (.seq (.region [o 24 (.fieldAddr 0 none (.t 7)), o 25 (.load none (.t 24)), o 26 (.not (.t 25)), m 27 26, ⟨(some 28), .mv (.t 0), (some (27, true)), []⟩, ⟨(some 29), .nilCheck (.t 28), (some (27, true)), []⟩, ⟨(some 30), .fieldAddr 0 none (.t 29), (some (27, true)), []⟩, ⟨(some 31), .load none (.t 30), (some (27, true)), []⟩, ⟨(some 32), .mv (.t 31), (some (27, true)), []⟩, ⟨(some 33), .fieldAddr 1 none (.t 7), (some (32, true)), []⟩, ⟨(some 34), .load none (.t 33), (some (32, true)), []⟩, ⟨(some 35), .pick (.t 32) (.t 34) (.c (.b false)), (some (27, true)), []⟩, ⟨(some 36), .not (.t 35), (some (27, true)), []⟩, o 37 (.pick (.t 27) (.t 36) (.c (.b false)))]) (.cond (.t 37) 
  (.seq (.region [o 6 (.mv (.c (.b false)))]) .ret) .skip)) 
  (.seq 
  (.seq (.region [o 38 (.fieldAddr 2 none (.t 7)), o 39 (.load none (.t 38)), o 40 (.fieldAddr 1 none (.t 4)), o 41 (.load none (.t 40)), o 42 (.call (.fn 96) [(.t 39), (.t 41)]), o 43 (.not (.t 42)), m 44 43, ⟨(some 45), .fieldAddr 2 none (.t 4), (some (44, false)), []⟩, ⟨(some 46), .load none (.t 45), (some (44, false)), []⟩, ⟨(some 47), .len 1 (.t 46), (some (44, false)), []⟩, ⟨(some 48), .fieldAddr 3 none (.t 7), (some (44, false)), []⟩, ⟨(some 49), .load none (.t 48), (some (44, false)), []⟩, ⟨(some 50), .bin .gtr (.t 47) (.t 49), (some (44, false)), []⟩, o 51 (.pick (.t 44) (.c (.b true)) (.t 50)), m 52 51, ⟨(some 53), .fieldAddr 3 none (.t 4), (some (52, false)), []⟩, ⟨(some 54), .load none (.t 53), (some (52, false)), []⟩, ⟨(some 55), .len 1 (.t 54), (some (52, false)), []⟩, ⟨(some 56), .fieldAddr 4 none (.t 7), (some (52, false)), []⟩, ⟨(some 57), .load none (.t 56), (some (52, false)), []⟩, ⟨(some 58), .bin .neq (.t 55) (.t 57), (some (52, false)), []⟩, o 59 (.pick (.t 52) (.c (.b true)) (.t 58))]) (.cond (.t 59) 
  (.seq (.region [o 6 (.mv (.c (.b false)))]) .ret) .skip)) 
  (.seq 
  (.seq (.region [o 60 (.fieldAddr 0 none (.t 4)), o 61 (.load none (.t 60)), o 62 (.bin .eql (.t 61) (.c (.i .u8 16))), m 63 62, ⟨(some 64), .fieldAddr 2 none (.t 4), (some (63, true)), []⟩, ⟨(some 65), .load none (.t 64), (some (63, true)), []⟩, ⟨(some 66), .call (.fn 97) [(.t 65)], (some (63, true)), []⟩, ⟨(some 67), .not (.t 66), (some (63, true)), []⟩, o 68 (.pick (.t 63) (.t 67) (.c (.b false)))]) (.cond (.t 68) 
  (.seq (.region [o 6 (.mv (.c (.b false)))]) .ret) .skip)) 
  (.seq 
  (.seq (.region [m 69 0, o 70 (.fieldAddr 2 none (.t 4)), o 71 (.load none (.t 70)), m 72 2, o 73 (.bin .add (.t 72) (.c (.i .i64 1))), o 74 (.call (.fn 98) [(.t 69), (.t 71), (.t 73)]), o 75 (.not (.t 74))]) (.cond (.t 75) 
  (.seq (.region [o 6 (.mv (.c (.b false)))]) .ret) .skip)) 
  (.seq 
  (.seq (.region [o 76 (.fieldAddr 3 none (.t 4)), o 77 (.load none (.t 76)), o 78 (.len 1 (.t 77)), o 79 (.mv (.c (.i .i64 0)))]) (.block 0 (.loop 
  (.seq (.region [o 80 (.bin .lss (.t 79) (.t 78))]) 
  (.seq (.cond (.t 80) .skip (.exit 0)) 
  (.seq (.block 1 
  (.seq (.region [o 81 (.idxSl (some 4) (.t 77) (.t 79)), o 82 (.load (some 4) (.t 81)), o 9 (.alloc (.ag [(.i .u8 0), (.s []), .nilsl, .nilsl])), u (.store (some 4) (.t 9) (.t 82))]) 
  (.seq (.region [m 83 0, o 84 (.load (some 4) (.t 9)), m 85 2, o 86 (.bin .add (.t 85) (.c (.i .i64 1))), o 87 (.call (.fn 70) [(.t 83), (.t 84), (.t 86)]), o 88 (.not (.t 87))]) (.cond (.t 88) 
  (.seq (.region [o 6 (.mv (.c (.b false)))]) .ret) .skip)))) (.region [o 89 (.bin .add (.t 79) (.c (.i .i64 1))), m 79 89]))))))) 
  (.seq (.region [o 6 (.mv (.c (.b true)))]) .ret))))))))))⟩
def c71 : AFunc := ⟨2, 22, [], (some 
  (.seq 
  (.seq (.region [m 5 0, o 6 (.fieldAddr 1 (some 4) (.t 1)), o 7 (.load (some 4) (.t 6)), o 8 (.call (.val (.t 5)) [(.t 7)]), o 9 (.not (.t 8))]) (.cond (.t 9) .ret .skip)) 
  (.seq (.region [o 10 (.fieldAddr 0 none (.t 1)), o 11 (.load none (.t 10)), o 12 (.len 1 (.t 11)), o 13 (.mv (.c (.i .i64 0)))]) (.block 0 (.loop 
  (.seq (.region [o 14 (.bin .lss (.t 13) (.t 12))]) 
  (.seq (.cond (.t 14) .skip (.exit 0)) 
  (.seq (.block 1 
  (.seq (.region [o 15 (.idxSl (some 4) (.t 11) (.t 13)), o 16 (.load (some 4) (.t 15)), o 4 (.alloc (.ag [(.i .u8 0), (.s []), .nilsl, .nilsl])), u (.store (some 4) (.t 4) (.t 16))]) 
  (.seq (.region [m 17 0, o 18 (.load (some 4) (.t 4)), o 19 (.call (.val (.t 17)) [(.t 18)]), o 20 (.not (.t 19))]) (.cond (.t 20) .ret .skip)))) (.region [o 21 (.bin .add (.t 13) (.c (.i .i64 1))), m 13 21])))))))))⟩
def c72 : AFunc := ⟨2, 21, [(4, none)], (some 
  (.seq (.region [o 2 (.box (.t 0)), o 3 (.box (.t 1)), o 4 (.mv (.c (.b false)))]) 
  (.seq 
  (.seq (.draw [o 5 (.fieldAddr 0 none (.t 2)), o 6 (.load none (.t 5)), o 7 (.bin .eql (.t 6) (.c (.i .u8 16))), m 8 7, ⟨(some 9), .fieldAddr 2 none (.t 2), (some (8, true)), []⟩, ⟨(some 10), .load none (.t 9), (some (8, true)), []⟩, ⟨(some 11), .idxSl (some 3) (.t 10) (.c (.i .i64 1)), (some (8, true)), []⟩, ⟨(some 12), .fieldAddr 1 none (.t 11), (some (8, true)), []⟩, ⟨(some 13), .load none (.t 12), (some (8, true)), []⟩, ⟨(some 14), .load none (.t 3), (some (8, true)), []⟩, ⟨(some 15), .bin .eql (.t 13) (.t 14), (some (8, true)), []⟩, o 16 (.pick (.t 8) (.t 15) (.c (.b false)))]) (.cond (.t 16) 
  (.seq (.region [o 4 (.mv (.c (.b true)))]) .ret) .skip)) 
  (.seq (.region [o 17 (.fieldAddr 3 none (.t 2)), o 18 (.load none (.t 17)), o 19 (.mkFunc (.func 100) [] [(.t 3)]), o 20 (.call (.fn 99) [(.t 18), (.t 19)]), m 4 20]) .ret))))⟩
def c73 : AFunc := ⟨1, 6, [(2, none)], (some 
  (.seq (.region [o 2 (.mv (.c (.b false)))]) 
  (.seq (.region [o 3 (.call (.fn 101) [(.c (.f (.func 102) [] [])), (.c (.f (.func 103) [] []))]), m 4 0, o 5 (.call (.val (.t 3)) [(.t 4)]), m 2 5]) .ret)))⟩
def c74 : AFunc := ⟨1, 4, [(2, none)], (some (.seq (.region [o 1 (.box (.t 0)), o 2 (.mv (.c .nf))]) (.seq (.region [o 3 (.mkFunc (.func 104) [] [(.t 1)]), m 2 3]) .ret)))⟩
def c75 : AFunc := ⟨1, 9, [(2, none)], (some 
  (.seq (.region [o 2 (.mv (.c (.b false)))]) 
  (.seq (.region [m 3 0, o 4 (.call (.fn 106) [(.t 3)]), m 5 4, ⟨(some 6), .mv (.t 0), (some (5, false)), []⟩, ⟨(some 7), .call (.fn 107) [(.t 6)], (some (5, false)), []⟩, o 8 (.pick (.t 5) (.c (.b true)) (.t 7)), m 2 8]) .ret)))⟩
def c76 : AFunc := ⟨2, 27, [], (some 
  (.seq (.region [m 6 0, o 7 (.len 1 (.t 6)), o 8 (.mv (.c (.i .i64 0)))]) (.block 0 (.loop 
  (.seq (.region [o 9 (.bin .lss (.t 8) (.t 7))]) 
  (.seq (.cond (.t 9) .skip (.exit 0)) 
  (.seq (.block 1 
  (.seq (.region [o 10 (.idxSl (some 3) (.t 6) (.t 8)), o 11 (.load (some 3) (.t 10)), o 5 (.alloc (.ag [(.b false), (.s []), .nilsl])), u (.store (some 3) (.t 5) (.t 11))]) 
  (.seq 
  (.seq (.region [o 12 (.fieldAddr 0 none (.t 5)), o 13 (.load none (.t 12)), m 14 13, ⟨(some 15), .fieldAddr 1 none (.t 5), (some (14, true)), []⟩, ⟨(some 16), .load none (.t 15), (some (14, true)), []⟩, ⟨(some 17), .call (.fn 75) [(.t 16)], (some (14, true)), []⟩, o 18 (.pick (.t 14) (.t 17) (.c (.b false)))]) (.cond (.t 18) (.region [m 19 1, o 20 (.fieldAddr 1 none (.t 5)), o 21 (.load none (.t 20)), u (.mapUpd (.inl 1) (.t 19) (.t 21) (.c (.b true)))]) .skip)) (.region [o 22 (.fieldAddr 2 none (.t 5)), o 23 (.load none (.t 22)), m 24 1, o 25 (.call (.fn 76) [(.t 23), (.t 24)])])))) (.region [o 26 (.bin .add (.t 8) (.c (.i .i64 1))), m 8 26]))))))))⟩
def c77 : AFunc := ⟨1, 5, [(2, none)], (some (.seq (.region [o 2 (.mv (.c .nilsl))]) (.seq (.region [m 3 0, o 4 (.call (.fn 108) [(.c .nilsl), (.t 3)]), m 2 4]) .ret)))⟩
def c78 : AFunc := ⟨1, 11, [], (some 
  (.seq (.region [m 3 0, o 4 (.len 1 (.t 3)), m 2 4]) (.region [m 5 0, m 6 2, m 7 2, o 8 (.conv .u64 (.t 7)), o 9 (.call (.fn 110) [(.t 8)]), o 10 (.call (.fn 109) [(.t 5), (.c (.i .i64 0)), (.t 6), (.t 9)])])))⟩
def c79 : AFunc := ⟨2, 14, [], (some 
  (.seq (.region [o 4 (.load none (.t 1)), o 5 (.rangeMap (.t 4))]) (.block 0 (.loop 
  (.seq (.region [o 6 (.nextMap (.t 5)), o 7 (.extract (.t 6) 0)]) 
  (.seq (.cond (.t 7) .skip (.exit 0)) (.block 1 
  (.seq (.region [o 8 (.entry (.t 5)), o 9 (.extract (.t 8) 0), m 3 9]) 
  (.seq (.region [m 10 0, m 11 3, o 12 (.call (.val (.t 10)) [(.t 11)]), o 13 (.not (.t 12))]) (.cond (.t 13) .ret .skip))))))))))⟩
def c80 : AFunc := ⟨2, 11, [(3, none)], (some (.seq (.region [⟨(some 3), .mv (.c (.i .i64 0)), none, []⟩]) (.seq (.seq (.region [⟨(some 4), .fieldAddr 2 none (.t 1), none, []⟩, ⟨(some 5), .load none (.t 4), none, []⟩, ⟨(some 6), .bin .eql (.t 5) (.c (.i .u8 3)), none, []⟩]) (.cond (.t 6) (.seq (.region [⟨(some 7), .load (some 3) (.t 1), none, []⟩, ⟨(some 8), .mv (.t 0), none, []⟩, ⟨(some 9), .call (.fn 31) [(.t 7), (.t 8)], none, []⟩, ⟨(some 3), .mv (.t 9), none, []⟩]) .ret) .skip)) (.seq (.region [⟨(some 10), .mv (.t 0), none, []⟩, ⟨(some 3), .mv (.t 10), none, []⟩]) .ret))))⟩
def c81 : AFunc := ⟨2, 79, [(4, (some (some 2))), (5, none), (6, none)], (some 
  (.seq (.region [o 3 (.box (.t 1)), o 4 (.alloc (.ag [.nilsl, .nilsl])), o 5 (.mv (.c (.i .i64 0))), o 6 (.mv (.c (.i .i64 0)))]) (.scope 
  (.seq 
  (.seq (.region [o 17 (.load (some 2) (.t 3)), o 18 (.call (.fn 111) [(.t 17)]), o 19 (.not (.t 18))]) (.cond (.t 19) 
  (.seq (.region [o 20 (.build [.nilsl, .nilsl] []), u (.store (some 2) (.t 4) (.t 20)), o 5 (.mv (.c (.i .i64 0))), o 6 (.mv (.c (.i .i64 2)))]) .ret) .skip)) 
  (.seq 
  (.seq (.region [m 21 0, o 22 (.len 1 (.t 21)), o 23 (.mv (.c (.i .i64 0)))]) (.block 0 (.loop 
  (.seq (.region [o 24 (.bin .lss (.t 23) (.t 22))]) 
  (.seq (.cond (.t 24) .skip (.exit 0)) 
  (.seq (.block 1 
  (.seq (.region [m 25 23, o 26 (.idxSl (some 8) (.t 21) (.t 23)), o 27 (.load (some 8) (.t 26)), o 8 (.alloc (.ag [(.i .u8 0), (.s []), .nilsl, .nilsl, (.i .u8 0), (.s []), .nilsl, .nilsl])), m 7 25, u (.store (some 8) (.t 8) (.t 27))]) 
  (.seq (.region [o 28 (.fieldAddr 0 (some 4) (.t 8)), o 29 (.load (some 4) (.t 28)), o 30 (.call (.fn 46) [(.t 29)]), o 31 (.not (.t 30)), m 32 31, ⟨(some 33), .fieldAddr 4 (some 4) (.t 8), (some (32, false)), []⟩, ⟨(some 34), .load (some 4) (.t 33), (some (32, false)), []⟩, ⟨(some 35), .call (.fn 60) [(.t 34)], (some (32, false)), []⟩, ⟨(some 36), .not (.t 35), (some (32, false)), []⟩, o 37 (.pick (.t 32) (.c (.b true)) (.t 36))]) (.cond (.t 37) 
  (.seq (.region [o 38 (.build [.nilsl, .nilsl] []), m 39 7, u (.store (some 2) (.t 4) (.t 38)), m 5 39, o 6 (.mv (.c (.i .i64 2)))]) .ret) .skip)))) (.region [o 40 (.bin .add (.t 23) (.c (.i .i64 1))), m 23 40]))))))) 
  (.seq (.region [o 41 (.load (some 2) (.t 3)), o 42 (.call (.fn 112) [(.t 41)]), m 9 42]) 
  (.seq (.region [o 10 (.alloc (.i .i64 0)), o 11 (.alloc (.i .i64 0)), u (.store none (.t 10) (.c (.i .i64 0))), u (.store none (.t 11) (.c (.i .i64 0)))]) 
  (.seq .skip 
  (.seq 
  (.seq (.region [m 43 9, o 44 (.mkFunc (.func 113) [(.t 43)] []), m 45 9, o 46 (.mkFunc (.func 114) [(.t 45)] []), o 47 (.build [.nf, .nf] [(0, 1, (.t 44)), (1, 1, (.t 46))]), o 48 (.mv (.c (.i .i64 0)))]) (.block 2 (.loop 
  (.seq (.region [o 49 (.bin .lss (.t 48) (.c (.i .i64 2)))]) 
  (.seq (.cond (.t 49) .skip (.exit 2)) 
  (.seq (.block 3 
  (.seq (.region [o 50 (.indexAgg 2 none (.t 47) (.t 48)), o 13 (.alloc .nf), u (.store none (.t 13) (.t 50))]) 
  (.seq (.region [m 51 0, o 52 (.len 1 (.t 51)), o 53 (.mv (.c (.i .i64 0)))]) (.block 4 (.loop 
  (.seq (.region [o 54 (.bin .lss (.t 53) (.t 52))]) 
  (.seq (.cond (.t 54) .skip (.exit 4)) 
  (.seq (.block 5 
  (.seq (.region [m 55 53, o 56 (.idxSl (some 8) (.t 51) (.t 53)), o 57 (.load (some 8) (.t 56)), o 14 (.alloc (.i .i64 0)), o 15 (.alloc (.ag [(.i .u8 0), (.s []), .nilsl, .nilsl, (.i .u8 0), (.s []), .nilsl, .nilsl])), u (.store none (.t 14) (.t 55)), u (.store (some 8) (.t 15) (.t 57))]) 
  (.seq (.region [o 58 (.fieldAddr 0 (some 4) (.t 15)), o 59 (.load (some 4) (.t 58)), o 60 (.fieldAddr 4 (some 4) (.t 15)), o 61 (.load (some 4) (.t 60)), o 62 (.call (.fn 115) [(.t 59), (.t 61)])]) (.block 6 (.rangeFunc (.t 62) [63] (.region [o 16 (.alloc (.ag [(.i .u8 0), (.s []), .nilsl, .nilsl, (.i .u8 0), (.s []), .nilsl, .nilsl, .nilsl])), u (.store (some 9) (.t 16) (.t 63))]) (.block 7 
  (.seq (.region [o 64 (.load none (.t 13)), o 65 (.load (some 9) (.t 16)), o 66 (.call (.val (.t 64)) [(.t 65)]), u (.store none (.t 11) (.t 66))]) 
  (.seq (.region [o 67 (.load none (.t 11)), o 68 (.bin .neq (.t 67) (.c (.i .i64 0)))]) (.cond (.t 68) 
  (.seq (.region [o 69 (.load none (.t 14)), u (.store none (.t 10) (.t 69))]) (.exit 2)) .skip))))))))) (.region [o 70 (.bin .add (.t 53) (.c (.i .i64 1))), m 53 70]))))))))) (.region [o 71 (.bin .add (.t 48) (.c (.i .i64 1))), m 48 71]))))))) 
  (.seq 
  (.seq (.region [o 72 (.load none (.t 11)), o 73 (.bin .neq (.t 72) (.c (.i .i64 0)))]) (.cond (.t 73) 
  (.seq (.draw [o 74 (.build [.nilsl, .nilsl] []), ⟨(some 75), .load none (.t 10), none, [6]⟩, ⟨(some 76), .load none (.t 11), none, [6]⟩, u (.store (some 2) (.t 4) (.t 74)), m 5 75, m 6 76]) .ret) .skip)) 
  (.seq (.region [m 77 9, o 78 (.call (.fn 116) [(.t 77)]), u (.store (some 2) (.t 4) (.t 78)), o 5 (.mv (.c (.i .i64 0))), o 6 (.mv (.c (.i .i64 0)))]) .ret)))))))))))⟩
def c82 : AFunc := ⟨1, 21, [(2, none)], (some 
  (.seq (.region [o 1 (.box (.t 0)), o 2 (.mv (.c .nilsl))]) 
  (.seq (.region [o 5 (.mkMap), o 3 (.alloc (.m none)), u (.store none (.t 3) (.t 5))]) 
  (.seq 
  (.seq (.region [o 6 (.load (some 4) (.t 1)), o 7 (.call (.fn 74) [(.t 6)])]) (.block 0 (.rangeFunc (.t 7) [8] (.region [o 4 (.alloc (.ag [(.i .u8 0), (.s []), .nilsl, .nilsl])), u (.store (some 4) (.t 4) (.t 8))]) (.block 1 
  (.seq (.region [o 9 (.fieldAddr 0 none (.t 4)), o 10 (.load none (.t 9)), o 11 (.bin .eql (.t 10) (.c (.i .u8 1)))]) (.cond (.t 11) (.region [o 12 (.load none (.t 3)), o 13 (.fieldAddr 1 none (.t 4)), o 14 (.load none (.t 13)), o 15 (.fieldAddr 2 none (.t 4)), o 16 (.load none (.t 15)), o 17 (.len 1 (.t 16)), o 18 (.build [(.s []), (.i .i64 0)] [(0, 1, (.t 14)), (1, 1, (.t 17))]), u (.mapUpd (.inr [1, 0]) (.t 12) (.t 18) (.c (.b true)))]) .skip)))))) 
  (.seq (.region [o 19 (.load none (.t 3)), o 20 (.call (.fn 117) [(.t 19)]), m 2 20]) .ret)))))⟩
def c83 : AFunc := ⟨1, 15, [(2, none)], (some 
  (.seq (.region [o 1 (.box (.t 0)), o 2 (.mv (.c .nilsl))]) 
  (.seq (.region [o 5 (.mkMap), o 3 (.alloc (.m none)), u (.store none (.t 3) (.t 5))]) 
  (.seq 
  (.seq (.region [o 6 (.load (some 4) (.t 1)), o 7 (.call (.fn 74) [(.t 6)])]) (.block 0 (.rangeFunc (.t 7) [8] (.region [o 4 (.alloc (.ag [(.i .u8 0), (.s []), .nilsl, .nilsl])), u (.store (some 4) (.t 4) (.t 8))]) (.block 1 (.region [o 9 (.fieldAddr 2 none (.t 4)), o 10 (.load none (.t 9)), o 11 (.mkFunc (.func 119) [] [(.t 3)]), o 12 (.call (.fn 118) [(.t 10), (.t 11)])]))))) 
  (.seq (.region [o 13 (.load none (.t 3)), o 14 (.call (.fn 117) [(.t 13)]), m 2 14]) .ret)))))⟩
def c87 : AFunc := ⟨3, 37, [(6, (some (some 4))), (7, (some none)), (8, (some none))], (some 
  (.seq (.region [o 6 (.alloc (.ag [(.i .u8 0), (.s []), .nilsl, .nilsl])), o 7 (.alloc (.i .i64 0)), o 8 (.alloc (.i .i64 0))]) 
  (.seq (.region [m 12 0, o 13 (.call (.fn 121) [(.t 12)]), m 11 13, o 14 (.extract (.t 11) 0), o 15 (.extract (.t 11) 1), o 16 (.extract (.t 11) 2), m 9 14, u (.store none (.t 7) (.t 15)), u (.store none (.t 8) (.t 16))]) 
  (.seq 
  (.seq (.region [o 17 (.load none (.t 8)), o 18 (.bin .neq (.t 17) (.c (.i .i64 0)))]) (.cond (.t 18) 
  (.seq (.draw [o 19 (.load (some 4) (.t 6)), ⟨(some 20), .load none (.t 7), none, [4]⟩, ⟨(some 21), .load none (.t 8), none, [4, 5]⟩, u (.store (some 4) (.t 6) (.t 19)), u (.store none (.t 7) (.t 20)), u (.store none (.t 8) (.t 21))]) .ret) .skip)) 
  (.seq (.region [o 22 (.mkFunc (.func 122) [] [(.t 6), (.t 7), (.t 8)]), u (.dfr (.val (.t 22)) [])]) 
  (.seq (.region [m 23 9, m 24 1, o 25 (.build [.nilsl, (.i .i64 0), (.i .i64 0), (.b false)] [(0, 1, (.t 23)), (3, 1, (.t 24))]), o 26 (.box (.t 25)), m 10 26]) 
  (.seq (.region [m 27 2, m 28 10, o 29 (.call (.val (.t 27)) [(.t 28)]), u (.store (some 4) (.t 6) (.t 29))]) 
  (.seq 
  (.seq (.region [m 30 10, o 31 (.call (.fn 123) [(.t 30)]), o 32 (.field 0 none (.t 31)), o 33 (.bin .neq (.t 32) (.c (.i .u8 5)))]) (.cond (.t 33) (.region [m 34 10, o 35 (.call (.fn 124) [(.t 34), (.c (.i .i64 50))])]) .skip)) 
  (.seq (.region [o 36 (.load (some 4) (.t 6)), u (.store (some 4) (.t 6) (.t 36)), u (.store none (.t 7) (.c (.i .i64 0))), u (.store none (.t 8) (.c (.i .i64 0)))]) .ret)))))))))⟩
def c88 : AFunc := ⟨1, 5, [(2, (some (some 4)))], (some 
  (.seq (.region [o 2 (.alloc (.ag [(.i .u8 0), (.s []), .nilsl, .nilsl]))]) 
  (.seq (.region [m 3 0, o 4 (.call (.fn 125) [(.t 3), (.c (.i .i64 0))]), u (.store (some 4) (.t 2) (.t 4))]) .ret)))⟩
def c92 : AFunc := ⟨2, 15, [(4, none), (5, none)], (some 
  (.seq (.region [o 4 (.mv (.c (.s []))), o 5 (.mv (.c (.b false)))]) 
  (.seq 
  (.seq (.region [m 6 0, m 7 1, o 8 (.call (.fn 130) [(.t 6), (.t 7)]), o 9 (.not (.t 8))]) (.cond (.t 9) 
  (.seq (.region [m 10 0, m 4 10, o 5 (.mv (.c (.b false)))]) .ret) .skip)) 
  (.seq (.region [m 11 0, m 12 1, o 13 (.len 0 (.t 12)), o 14 (.sliceStr (.t 11) (some (.t 13)) none), m 4 14, o 5 (.mv (.c (.b true)))]) .ret))))⟩
def c93 : AFunc := ⟨2, 23, [(4, none), (5, none), (6, none)], (some 
  (.seq (.region [o 4 (.mv (.c (.s []))), o 5 (.mv (.c (.s []))), o 6 (.mv (.c (.b false)))]) 
  (.seq 
  (.seq (.region [m 8 0, m 9 1, o 10 (.call (.fn 131) [(.t 8), (.t 9)]), m 7 10]) 
  (.seq (.region [m 11 7, o 12 (.bin .geq (.t 11) (.c (.i .i64 0)))]) (.cond (.t 12) 
  (.seq (.draw [m 13 0, m 14 7, o 15 (.sliceStr (.t 13) none (some (.t 14))), m 16 0, m 17 7, m 18 1, o 19 (.len 0 (.t 18)), o 20 (.bin .add (.t 17) (.t 19)), o 21 (.sliceStr (.t 16) (some (.t 20)) none), m 4 15, m 5 21, o 6 (.mv (.c (.b true)))]) .ret) .skip))) 
  (.seq (.region [m 22 0, m 4 22, o 5 (.mv (.c (.s []))), o 6 (.mv (.c (.b false)))]) .ret))))⟩
def c94 : AFunc := ⟨3, 8, [(6, none)], (some 
  (.seq (.region [o 3 (.box (.t 0)), o 4 (.box (.t 1)), o 5 (.box (.t 2)), o 6 (.mv (.c .nf))]) 
  (.seq (.region [o 7 (.mkFunc (.func 132) [] [(.t 4), (.t 3), (.t 5)]), m 6 7]) .ret)))⟩
def c95 : AFunc := ⟨2, 25, [(4, none)], (some 
  (.seq (.region [o 4 (.mv (.c (.b false)))]) 
  (.seq (.region [m 5 0, o 6 (.nilCheck (.t 5)), o 7 (.fieldAddr 1 none (.t 6)), o 8 (.load none (.t 7)), o 9 (.bin .sub (.t 8) (.c (.i .i64 1))), o 10 (.nilCheck (.t 5)), o 11 (.fieldAddr 1 none (.t 10)), u (.store none (.t 11) (.t 9))]) 
  (.seq (.region [m 12 0, o 13 (.nilCheck (.t 12)), o 14 (.fieldAddr 1 none (.t 13)), o 15 (.load none (.t 14)), o 16 (.bin .geq (.t 15) (.c (.i .i64 0))), m 17 16, ⟨(some 18), .mv (.t 1), (some (17, true)), []⟩, ⟨(some 19), .mv (.t 0), (some (17, true)), []⟩, ⟨(some 20), .nilCheck (.t 19), (some (17, true)), []⟩, ⟨(some 21), .fieldAddr 2 none (.t 20), (some (17, true)), []⟩, ⟨(some 22), .load none (.t 21), (some (17, true)), []⟩, ⟨(some 23), .bin .leq (.t 18) (.t 22), (some (17, true)), []⟩, o 24 (.pick (.t 17) (.t 23) (.c (.b false))), m 4 24]) .ret))))⟩
def c96 : AFunc := ⟨2, 20, [(4, none)], (some 
  (.seq (.region [o 4 (.mv (.c (.b false)))]) 
  (.seq 
  (.seq (.region [m 5 0]) (.block 0 
  (.seq (.region [o 7 (.bin .eql (.t 5) (.c (.i .u8 1))), m 6 7]) (.cond (.t 6) 
  (.seq (.region [m 8 1, o 9 (.call (.fn 73) [(.t 8)]), m 4 9]) .ret) 
  (.seq (.region [o 11 (.bin .eql (.t 5) (.c (.i .u8 2))), m 10 11]) (.cond (.t 10) 
  (.seq (.region [m 12 1, o 13 (.call (.fn 134) [(.t 12)]), m 4 13]) .ret) 
  (.seq (.region [o 15 (.bin .eql (.t 5) (.c (.i .u8 3))), m 14 15]) (.cond (.t 14) 
  (.seq (.region [m 16 1, o 17 (.call (.fn 106) [(.t 16)]), m 4 17]) .ret) .skip)))))))) 
  (.seq (.region [m 18 1, o 19 (.bin .eql (.t 18) (.c (.s []))), m 4 19]) .ret))))⟩
def c97 : AFunc := ⟨1, 32, [(2, none)], (some 
  (.seq (.region [o 2 (.mv (.c (.b false)))]) 
  (.seq (.region [m 3 0, o 4 (.len 1 (.t 3)), o 5 (.bin .eql (.t 4) (.c (.i .i64 2))), m 6 5, ⟨(some 7), .mv (.t 0), (some (6, true)), []⟩, ⟨(some 8), .idxSl (some 3) (.t 7) (.c (.i .i64 0)), (some (6, true)), []⟩, ⟨(some 9), .fieldAddr 0 none (.t 8), (some (6, true)), []⟩, ⟨(some 10), .load none (.t 9), (some (6, true)), []⟩, o 11 (.pick (.t 6) (.t 10) (.c (.b false))), m 12 11, ⟨(some 13), .mv (.t 0), (some (12, true)), []⟩, ⟨(some 14), .idxSl (some 3) (.t 13) (.c (.i .i64 0)), (some (12, true)), []⟩, ⟨(some 15), .fieldAddr 1 none (.t 14), (some (12, true)), []⟩, ⟨(some 16), .load none (.t 15), (some (12, true)), []⟩, ⟨(some 17), .call (.fn 134) [(.t 16)], (some (12, true)), []⟩, o 18 (.pick (.t 12) (.t 17) (.c (.b false))), m 19 18, ⟨(some 20), .mv (.t 0), (some (19, true)), []⟩, ⟨(some 21), .idxSl (some 3) (.t 20) (.c (.i .i64 1)), (some (19, true)), []⟩, ⟨(some 22), .fieldAddr 0 none (.t 21), (some (19, true)), []⟩, ⟨(some 23), .load none (.t 22), (some (19, true)), []⟩, o 24 (.pick (.t 19) (.t 23) (.c (.b false))), m 25 24, ⟨(some 26), .mv (.t 0), (some (25, true)), []⟩, ⟨(some 27), .idxSl (some 3) (.t 26) (.c (.i .i64 1)), (some (25, true)), []⟩, ⟨(some 28), .fieldAddr 1 none (.t 27), (some (25, true)), []⟩, ⟨(some 29), .load none (.t 28), (some (25, true)), []⟩, ⟨(some 30), .call (.fn 107) [(.t 29)], (some (25, true)), []⟩, o 31 (.pick (.t 25) (.t 30) (.c (.b false))), m 2 31]) .ret)))⟩
def c98 : AFunc := ⟨3, 21, [(6, none)], (some 
  (.seq (.region [o 6 (.mv (.c (.b false)))]) 
  (.seq 
  (.seq (.region [m 9 1, o 10 (.len 1 (.t 9)), o 11 (.mv (.c (.i .i64 0)))]) (.block 0 (.loop 
  (.seq (.region [o 12 (.bin .lss (.t 11) (.t 10))]) 
  (.seq (.cond (.t 12) .skip (.exit 0)) 
  (.seq (.block 1 
  (.seq (.region [o 13 (.idxSl (some 3) (.t 9) (.t 11)), o 14 (.load (some 3) (.t 13)), o 8 (.alloc (.ag [(.b false), (.s []), .nilsl])), u (.store (some 3) (.t 8) (.t 14))]) 
  (.seq (.region [m 15 0, o 16 (.load (some 3) (.t 8)), m 17 2, o 18 (.call (.fn 135) [(.t 15), (.t 16), (.t 17)]), o 19 (.not (.t 18))]) (.cond (.t 19) 
  (.seq (.region [o 6 (.mv (.c (.b false)))]) .ret) .skip)))) (.region [o 20 (.bin .add (.t 11) (.c (.i .i64 1))), m 11 20]))))))) 
  (.seq (.region [o 6 (.mv (.c (.b true)))]) .ret))))⟩
def c99 : AFunc := ⟨2, 9, [(4, none)], (some (.seq (.region [o 4 (.mv (.c (.b false)))]) (.seq (.region [m 5 0, m 6 1, o 7 (.call (.fn 136) [(.t 5), (.t 6)]), o 8 (.bin .geq (.t 7) (.c (.i .i64 0))), m 4 8]) .ret)))⟩
def c101 : AFunc := ⟨2, 6, [(4, none)], (some (.seq (.region [o 2 (.box (.t 0)), o 3 (.box (.t 1)), o 4 (.mv (.c .nf))]) (.seq (.region [o 5 (.mkFunc (.func 137) [] [(.t 2), (.t 3)]), m 4 5]) .ret)))⟩
def c102 : AFunc := ⟨1, 9, [(2, none)], (some 
  (.seq (.region [o 2 (.mv (.c (.b false)))]) 
  (.seq (.region [m 3 0, o 4 (.bin .geq (.t 3) (.c (.i .u8 65))), m 5 4, ⟨(some 6), .mv (.t 0), (some (5, true)), []⟩, ⟨(some 7), .bin .leq (.t 6) (.c (.i .u8 90)), (some (5, true)), []⟩, o 8 (.pick (.t 5) (.t 7) (.c (.b false))), m 2 8]) .ret)))⟩
def c104 : AFunc := ⟨2, 6, [], (some (.region [o 3 (.load (some 4) (.t 1)), m 4 0, o 5 (.call (.fn 105) [(.t 3), (.t 4)])]))⟩
def c105 : AFunc := ⟨2, 23, [(4, none)], (some 
  (.seq (.region [o 2 (.box (.t 0)), o 4 (.mv (.c (.b false)))]) 
  (.seq 
  (.seq (.region [m 7 1, o 8 (.load (some 4) (.t 2)), o 9 (.call (.val (.t 7)) [(.t 8)]), o 10 (.not (.t 9))]) (.cond (.t 10) 
  (.seq (.region [o 4 (.mv (.c (.b false)))]) .ret) .skip)) 
  (.seq 
  (.seq (.region [o 11 (.fieldAddr 3 none (.t 2)), o 12 (.load none (.t 11)), o 13 (.len 1 (.t 12)), o 14 (.mv (.c (.i .i64 0)))]) (.block 0 (.loop 
  (.seq (.region [o 15 (.bin .lss (.t 14) (.t 13))]) 
  (.seq (.cond (.t 15) .skip (.exit 0)) 
  (.seq (.block 1 
  (.seq (.region [o 16 (.idxSl (some 4) (.t 12) (.t 14)), o 17 (.load (some 4) (.t 16)), o 6 (.alloc (.ag [(.i .u8 0), (.s []), .nilsl, .nilsl])), u (.store (some 4) (.t 6) (.t 17))]) 
  (.seq (.region [o 18 (.load (some 4) (.t 6)), m 19 1, o 20 (.call (.fn 105) [(.t 18), (.t 19)]), o 21 (.not (.t 20))]) (.cond (.t 21) 
  (.seq (.region [o 4 (.mv (.c (.b false)))]) .ret) .skip)))) (.region [o 22 (.bin .add (.t 14) (.c (.i .i64 1))), m 14 22]))))))) 
  (.seq (.region [o 4 (.mv (.c (.b true)))]) .ret)))))⟩
def c106 : AFunc := ⟨1, 15, [(2, none)], (some 
  (.seq (.region [o 2 (.mv (.c (.b false)))]) 
  (.seq (.region [m 3 0, o 4 (.len 0 (.t 3)), o 5 (.bin .leq (.t 4) (.c (.i .i64 16))), m 6 5, ⟨(some 7), .mv (.t 0), (some (6, true)), []⟩, ⟨(some 8), .call (.fn 141) [(.t 7), (.c (.s [63]))], (some (6, true)), []⟩, o 9 (.pick (.t 6) (.t 8) (.c (.b false))), m 10 9, ⟨(some 11), .mv (.t 0), (some (10, true)), []⟩, ⟨(some 12), .sliceStr (.t 11) (some (.c (.i .i64 1))) none, (some (10, true)), []⟩, ⟨(some 13), .call (.fn 73) [(.t 12)], (some (10, true)), []⟩, o 14 (.pick (.t 10) (.t 13) (.c (.b false))), m 2 14]) .ret)))⟩
def c107 : AFunc := ⟨1, 15, [(2, none)], (some 
  (.seq (.region [o 2 (.mv (.c (.b false)))]) 
  (.seq (.region [m 3 0, o 4 (.len 0 (.t 3)), o 5 (.bin .leq (.t 4) (.c (.i .i64 16))), m 6 5, ⟨(some 7), .mv (.t 0), (some (6, true)), []⟩, ⟨(some 8), .call (.fn 141) [(.t 7), (.c (.s [63]))], (some (6, true)), []⟩, o 9 (.pick (.t 6) (.t 8) (.c (.b false))), m 10 9, ⟨(some 11), .mv (.t 0), (some (10, true)), []⟩, ⟨(some 12), .sliceStr (.t 11) (some (.c (.i .i64 1))) none, (some (10, true)), []⟩, ⟨(some 13), .call (.fn 142) [(.t 12)], (some (10, true)), []⟩, o 14 (.pick (.t 10) (.t 13) (.c (.b false))), m 2 14]) .ret)))⟩
def c108 : AFunc := ⟨2, 13, [(4, none)], (some 
  (.seq (.region [o 2 (.box (.t 0)), o 4 (.mv (.c .nilsl))]) 
  (.seq 
  (.seq (.region [m 6 1]) (.block 0 (.rangeFunc (.t 6) [7] (.region [m 5 7]) (.block 1 (.region [o 8 (.load none (.t 2)), m 9 5, o 10 (.buildSlice none 1 [(.s [])] [(0, (.t 9))]), o 11 (.append none 16 (.t 8) (.t 10)), u (.store none (.t 2) (.t 11))]))))) 
  (.seq (.region [o 12 (.load none (.t 2)), m 4 12]) .ret))))⟩
def c109 : AFunc := ⟨4, 134, [], (some 
  (.seq (.region [o 8 (.mv (.c (.b true)))]) 
  (.seq (.region [o 9 (.mv (.c (.b true)))]) (.block 0 (.loop (.block 1 
  (.seq (.region [m 19 2, m 20 1, o 21 (.bin .sub (.t 19) (.t 20)), m 10 21]) 
  (.seq 
  (.seq (.region [m 22 10, o 23 (.bin .leq (.t 22) (.c (.i .i64 12)))]) (.cond (.t 23) 
  (.seq (.region [m 24 0, m 25 1, m 26 2, o 27 (.call (.fn 143) [(.t 24), (.t 25), (.t 26)])]) .ret) .skip)) 
  (.seq 
  (.seq (.region [m 28 3, o 29 (.bin .eql (.t 28) (.c (.i .i64 0)))]) (.cond (.t 29) 
  (.seq (.region [m 30 0, m 31 1, m 32 2, o 33 (.call (.fn 144) [(.t 30), (.t 31), (.t 32)])]) .ret) .skip)) 
  (.seq 
  (.seq (.region [m 34 8, o 35 (.not (.t 34))]) (.cond (.t 35) 
  (.seq (.region [m 36 0, m 37 1, m 38 2, o 39 (.call (.fn 145) [(.t 36), (.t 37), (.t 38)])]) (.region [m 40 3, o 41 (.bin .sub (.t 40) (.c (.i .i64 1))), m 3 41])) .skip)) 
  (.seq (.region [m 43 0, m 44 1, m 45 2, o 46 (.call (.fn 146) [(.t 43), (.t 44), (.t 45)]), m 42 46, o 47 (.extract (.t 42) 0), o 48 (.extract (.t 42) 1), m 11 47, m 12 48]) 
  (.seq 
  (.seq (.region [m 49 12, o 50 (.bin .eql (.t 49) (.c (.i .i64 2)))]) (.cond (.t 50) 
  (.seq (.region [m 51 0, m 52 1, m 53 2, o 54 (.call (.fn 147) [(.t 51), (.t 52), (.t 53)])]) 
  (.seq (.region [m 55 2, o 56 (.bin .sub (.t 55) (.c (.i .i64 1))), m 57 11, m 58 1, o 59 (.bin .sub (.t 57) (.t 58)), o 60 (.bin .sub (.t 56) (.t 59)), m 11 60]) (.region [o 12 (.mv (.c (.i .i64 1)))]))) .skip)) 
  (.seq 
  (.seq (.region [m 61 8, m 62 61, ⟨(some 63), .mv (.t 9), (some (62, true)), []⟩, o 64 (.pick (.t 62) (.t 63) (.c (.b false))), m 65 64, ⟨(some 66), .mv (.t 12), (some (65, true)), []⟩, ⟨(some 67), .bin .eql (.t 66) (.c (.i .i64 1)), (some (65, true)), []⟩, o 68 (.pick (.t 65) (.t 67) (.c (.b false)))]) (.cond (.t 68) 
  (.seq (.region [m 69 0, m 70 1, m 71 2, o 72 (.call (.fn 148) [(.t 69), (.t 70), (.t 71)])]) (.cond (.t 72) .ret .skip)) .skip)) 
  (.seq 
  (.seq (.draw [m 73 1, o 74 (.bin .gtr (.t 73) (.c (.i .i64 0))), m 75 74, ⟨(some 76), .mv (.t 0), (some (75, true)), []⟩, ⟨(some 77), .mv (.t 1), (some (75, true)), []⟩, ⟨(some 78), .bin .sub (.t 77) (.c (.i .i64 1)), (some (75, true)), []⟩, ⟨(some 79), .idxSl none (.t 76) (.t 78), (some (75, true)), []⟩, ⟨(some 80), .load none (.t 79), (some (75, true)), []⟩, ⟨(some 81), .mv (.t 0), (some (75, true)), []⟩, ⟨(some 82), .mv (.t 11), (some (75, true)), []⟩, ⟨(some 83), .idxSl none (.t 81) (.t 82), (some (75, true)), []⟩, ⟨(some 84), .load none (.t 83), (some (75, true)), []⟩, ⟨(some 85), .call (.fn 149) [(.t 80), (.t 84)], (some (75, true)), []⟩, ⟨(some 86), .not (.t 85), (some (75, true)), []⟩, o 87 (.pick (.t 75) (.t 86) (.c (.b false)))]) (.cond (.t 87) 
  (.seq (.region [m 88 0, m 89 1, m 90 2, m 91 11, o 92 (.call (.fn 150) [(.t 88), (.t 89), (.t 90), (.t 91)]), m 13 92]) 
  (.seq (.region [m 93 13, m 1 93]) (.exit 1))) .skip)) 
  (.seq (.region [m 95 0, m 96 1, m 97 2, m 98 11, o 99 (.call (.fn 151) [(.t 95), (.t 96), (.t 97), (.t 98)]), m 94 99, o 100 (.extract (.t 94) 0), o 101 (.extract (.t 94) 1), m 14 100, m 15 101]) 
  (.seq (.region [m 102 15, m 9 102]) 
  (.seq (.region [m 103 14, m 104 1, o 105 (.bin .sub (.t 103) (.t 104)), m 106 2, m 107 14, o 108 (.bin .sub (.t 106) (.t 107)), m 16 105, m 17 108]) 
  (.seq (.region [m 109 10, o 110 (.bin .quo (.t 109) (.c (.i .i64 8))), m 18 110]) 
  (.seq (.region [m 111 16, m 112 17, o 113 (.bin .lss (.t 111) (.t 112))]) (.cond (.t 113) 
  (.seq (.region [m 114 16, m 115 18, o 116 (.bin .geq (.t 114) (.t 115)), m 8 116]) 
  (.seq (.region [m 117 0, m 118 1, m 119 14, m 120 3, o 121 (.call (.fn 109) [(.t 117), (.t 118), (.t 119), (.t 120)])]) (.region [m 122 14, o 123 (.bin .add (.t 122) (.c (.i .i64 1))), m 1 123]))) 
  (.seq (.region [m 124 17, m 125 18, o 126 (.bin .geq (.t 124) (.t 125)), m 8 126]) 
  (.seq (.region [m 127 0, m 128 14, o 129 (.bin .add (.t 128) (.c (.i .i64 1))), m 130 2, m 131 3, o 132 (.call (.fn 109) [(.t 127), (.t 129), (.t 130), (.t 131)])]) (.region [m 133 14, m 2 133])))))))))))))))))))))))⟩
def c110 : AFunc := ⟨1, 8, [(2, none)], (some 
  (.seq (.region [o 2 (.mv (.c (.i .i64 0)))]) 
  (.seq (.cond (.c (.b false)) 
  (.seq (.region [m 3 0, o 4 (.conv .u32 (.t 3)), o 5 (.call (.fn 152) [(.t 4)]), m 2 5]) .ret) .skip) 
  (.seq (.region [m 6 0, o 7 (.call (.fn 153) [(.t 6)]), m 2 7]) .ret))))⟩
def c111 : AFunc := ⟨1, 63, [(2, none)], (some 
  (.seq (.region [o 1 (.box (.t 0)), o 2 (.mv (.c (.b false)))]) 
  (.seq (.region [o 3 (.mv (.c .nilsl)), o 4 (.mv (.c .nilsl))]) 
  (.seq 
  (.seq (.region [o 9 (.fieldAddr 0 none (.t 1)), o 10 (.load none (.t 9)), o 11 (.len 1 (.t 10)), o 12 (.mv (.c (.i .i64 0)))]) (.block 0 (.loop 
  (.seq (.region [o 13 (.bin .lss (.t 12) (.t 11))]) 
  (.seq (.cond (.t 13) .skip (.exit 0)) 
  (.seq (.block 1 
  (.seq (.region [o 14 (.idxSl (some 5) (.t 10) (.t 12)), o 15 (.load (some 5) (.t 14)), o 6 (.alloc (.ag [(.s []), (.i .u8 0), (.s []), .nilsl, .nilsl])), u (.store (some 5) (.t 6) (.t 15))]) 
  (.seq 
  (.seq (.region [o 16 (.fieldAddr 0 none (.t 6)), o 17 (.load none (.t 16)), o 18 (.call (.fn 154) [(.t 17)]), o 19 (.not (.t 18)), m 20 19, ⟨(some 21), .fieldAddr 1 (some 4) (.t 6), (some (20, false)), []⟩, ⟨(some 22), .load (some 4) (.t 21), (some (20, false)), []⟩, ⟨(some 23), .call (.fn 155) [(.t 22)], (some (20, false)), []⟩, ⟨(some 24), .call (.fn 60) [(.t 23)], (some (20, false)), []⟩, ⟨(some 25), .not (.t 24), (some (20, false)), []⟩, o 26 (.pick (.t 20) (.c (.b true)) (.t 25))]) (.cond (.t 26) 
  (.seq (.region [o 2 (.mv (.c (.b false)))]) .ret) .skip)) (.region [m 27 3, o 28 (.fieldAddr 0 none (.t 6)), o 29 (.load none (.t 28)), o 30 (.buildSlice none 1 [(.s [])] [(0, (.t 29))]), o 31 (.append none 16 (.t 27) (.t 30)), m 3 31])))) (.region [o 32 (.bin .add (.t 12) (.c (.i .i64 1))), m 12 32]))))))) 
  (.seq 
  (.seq (.region [o 33 (.fieldAddr 1 none (.t 1)), o 34 (.load none (.t 33)), o 35 (.len 1 (.t 34)), o 36 (.mv (.c (.i .i64 0)))]) (.block 2 (.loop 
  (.seq (.region [o 37 (.bin .lss (.t 36) (.t 35))]) 
  (.seq (.cond (.t 37) .skip (.exit 2)) 
  (.seq (.block 3 
  (.seq (.region [o 38 (.idxSl (some 4) (.t 34) (.t 36)), o 39 (.load (some 4) (.t 38)), o 8 (.alloc (.ag [(.s []), (.b false), (.s []), .nilsl])), u (.store (some 4) (.t 8) (.t 39))]) 
  (.seq 
  (.seq (.region [o 40 (.fieldAddr 0 none (.t 8)), o 41 (.load none (.t 40)), o 42 (.call (.fn 156) [(.t 41)]), o 43 (.not (.t 42)), m 44 43, ⟨(some 45), .fieldAddr 1 (some 3) (.t 8), (some (44, false)), []⟩, ⟨(some 46), .load (some 3) (.t 45), (some (44, false)), []⟩, ⟨(some 47), .call (.fn 158) [(.t 46)], (some (44, false)), []⟩, ⟨(some 48), .call (.fn 157) [(.t 47)], (some (44, false)), []⟩, ⟨(some 49), .not (.t 48), (some (44, false)), []⟩, o 50 (.pick (.t 44) (.c (.b true)) (.t 49))]) (.cond (.t 50) 
  (.seq (.region [o 2 (.mv (.c (.b false)))]) .ret) .skip)) (.region [m 51 4, o 52 (.fieldAddr 0 none (.t 8)), o 53 (.load none (.t 52)), o 54 (.buildSlice none 1 [(.s [])] [(0, (.t 53))]), o 55 (.append none 16 (.t 51) (.t 54)), m 4 55])))) (.region [o 56 (.bin .add (.t 36) (.c (.i .i64 1))), m 36 56]))))))) 
  (.seq (.region [m 57 3, o 58 (.call (.fn 159) [(.t 57)]), m 59 58, ⟨(some 60), .mv (.t 4), (some (59, true)), []⟩, ⟨(some 61), .call (.fn 159) [(.t 60)], (some (59, true)), []⟩, o 62 (.pick (.t 59) (.t 61) (.c (.b false))), m 2 62]) .ret))))))⟩
def c112 : AFunc := ⟨1, 45, [(2, none)], (some 
  (.seq (.region [o 1 (.box (.t 0)), o 2 (.mv (.c (.p none)))]) 
  (.seq (.region [o 8 (.mkMap), o 9 (.mkMap), o 10 (.build [(.m none), (.m none)] [(0, 1, (.t 8)), (1, 1, (.t 9))]), o 11 (.box (.t 10)), m 3 11]) 
  (.seq 
  (.seq (.region [o 12 (.fieldAddr 0 none (.t 1)), o 13 (.load none (.t 12)), o 14 (.len 1 (.t 13)), o 15 (.mv (.c (.i .i64 0)))]) (.block 0 (.loop 
  (.seq (.region [o 16 (.bin .lss (.t 15) (.t 14))]) 
  (.seq (.cond (.t 16) .skip (.exit 0)) 
  (.seq (.block 1 
  (.seq (.region [o 17 (.idxSl (some 5) (.t 13) (.t 15)), o 18 (.load (some 5) (.t 17)), o 5 (.alloc (.ag [(.s []), (.i .u8 0), (.s []), .nilsl, .nilsl])), u (.store (some 5) (.t 5) (.t 18))]) (.draw [m 19 3, o 20 (.nilCheck (.t 19)), o 21 (.fieldAddr 0 none (.t 20)), o 22 (.load none (.t 21)), o 23 (.fieldAddr 0 none (.t 5)), o 24 (.load none (.t 23)), o 25 (.fieldAddr 1 (some 4) (.t 5)), o 26 (.load (some 4) (.t 25)), u (.mapUpd (.inl 1) (.t 22) (.t 24) (.t 26))]))) (.region [o 27 (.bin .add (.t 15) (.c (.i .i64 1))), m 15 27]))))))) 
  (.seq 
  (.seq (.region [o 28 (.fieldAddr 1 none (.t 1)), o 29 (.load none (.t 28)), o 30 (.len 1 (.t 29)), o 31 (.mv (.c (.i .i64 0)))]) (.block 2 (.loop 
  (.seq (.region [o 32 (.bin .lss (.t 31) (.t 30))]) 
  (.seq (.cond (.t 32) .skip (.exit 2)) 
  (.seq (.block 3 
  (.seq (.region [o 33 (.idxSl (some 4) (.t 29) (.t 31)), o 34 (.load (some 4) (.t 33)), o 7 (.alloc (.ag [(.s []), (.b false), (.s []), .nilsl])), u (.store (some 4) (.t 7) (.t 34))]) (.draw [m 35 3, o 36 (.nilCheck (.t 35)), o 37 (.fieldAddr 1 none (.t 36)), o 38 (.load none (.t 37)), o 39 (.fieldAddr 0 none (.t 7)), o 40 (.load none (.t 39)), o 41 (.fieldAddr 1 (some 3) (.t 7)), o 42 (.load (some 3) (.t 41)), u (.mapUpd (.inl 1) (.t 38) (.t 40) (.t 42))]))) (.region [o 43 (.bin .add (.t 31) (.c (.i .i64 1))), m 31 43]))))))) 
  (.seq (.region [m 44 3, m 2 44]) .ret))))))⟩
def c113 : AFunc := ⟨2, 119, [(4, none)], (some 
  (.seq (.region [o 3 (.box (.t 1)), o 4 (.mv (.c (.i .i64 0)))]) 
  (.seq (.draw [o 14 (.fieldAddr 0 (some 4) (.t 3)), ⟨(some 15), .load (some 4) (.t 14), none, [6]⟩, o 16 (.fieldAddr 4 (some 4) (.t 3)), ⟨(some 17), .load (some 4) (.t 16), none, [6, 7]⟩, o 5 (.alloc (.ag [(.i .u8 0), (.s []), .nilsl, .nilsl])), o 6 (.alloc (.ag [(.i .u8 0), (.s []), .nilsl, .nilsl])), u (.store (some 4) (.t 5) (.t 15)), u (.store (some 4) (.t 6) (.t 17))]) 
  (.seq 
  (.seq (.region [o 18 (.fieldAddr 0 none (.t 5)), o 19 (.load none (.t 18))]) (.block 0 
  (.seq (.region [o 21 (.bin .eql (.t 19) (.c (.i .u8 16))), m 20 21]) (.cond (.t 20) 
  (.seq (.region [o 4 (.mv (.c (.i .i64 0)))]) .ret) 
  (.seq (.region [o 23 (.bin .eql (.t 19) (.c (.i .u8 15))), m 22 23]) (.cond (.t 22) 
  (.seq (.region [o 25 (.load (some 9) (.t 3)), o 26 (.load (some 4) (.t 6)), o 27 (.call (.fn 160) [(.t 25), (.t 26), (.c .nilsl)]), m 24 27, o 28 (.extract (.t 24) 0), o 29 (.extract (.t 24) 1), o 7 (.alloc (.ag [(.i .u8 0), (.s []), .nilsl, .nilsl])), u (.store (some 4) (.t 7) (.t 28)), m 8 29]) 
  (.seq 
  (.seq (.region [m 30 8, o 31 (.not (.t 30))]) (.cond (.t 31) 
  (.seq (.region [o 4 (.mv (.c (.i .i64 70)))]) .ret) .skip)) 
  (.seq (.draw [m 33 0, o 34 (.nilCheck (.t 33)), o 35 (.fieldAddr 0 none (.t 34)), ⟨(some 36), .load none (.t 35), none, [11]⟩, o 37 (.fieldAddr 1 none (.t 5)), ⟨(some 38), .load none (.t 37), none, [11]⟩, ⟨(some 39), .lookup (.inl 1) (.t 36) (.t 38) (.ag [(.i .u8 0), (.s []), .nilsl, .nilsl]) true, none, [11]⟩, m 32 39, o 40 (.extract (.t 32) 0), o 41 (.extract (.t 32) 1), o 9 (.alloc (.ag [(.i .u8 0), (.s []), .nilsl, .nilsl])), u (.store (some 4) (.t 9) (.t 40)), m 8 41]) 
  (.seq 
  (.seq (.region [m 42 8, o 43 (.not (.t 42))]) (.cond (.t 43) (.draw [m 44 0, o 45 (.nilCheck (.t 44)), o 46 (.fieldAddr 0 none (.t 45)), o 47 (.load none (.t 46)), o 48 (.fieldAddr 1 none (.t 5)), o 49 (.load none (.t 48)), o 50 (.load (some 4) (.t 7)), u (.mapUpd (.inl 1) (.t 47) (.t 49) (.t 50))]) 
  (.seq (.region [o 51 (.load (some 4) (.t 9)), o 52 (.load (some 4) (.t 7)), o 53 (.call (.fn 161) [(.t 51), (.t 52), (.c .nilsl)]), o 54 (.not (.t 53))]) (.cond (.t 54) 
  (.seq (.region [o 4 (.mv (.c (.i .i64 70)))]) .ret) .skip)))) 
  (.seq (.region [o 4 (.mv (.c (.i .i64 0)))]) .ret))))) .skip)))))) 
  (.seq 
  (.seq (.region [o 55 (.fieldAddr 0 none (.t 5)), o 56 (.load none (.t 55)), o 57 (.fieldAddr 0 none (.t 6)), o 58 (.load none (.t 57)), o 59 (.bin .neq (.t 56) (.t 58)), m 60 59, ⟨(some 61), .fieldAddr 2 none (.t 5), (some (60, false)), []⟩, ⟨(some 62), .load none (.t 61), (some (60, false)), []⟩, ⟨(some 63), .len 1 (.t 62), (some (60, false)), []⟩, ⟨(some 64), .fieldAddr 2 none (.t 6), (some (60, false)), []⟩, ⟨(some 65), .load none (.t 64), (some (60, false)), []⟩, ⟨(some 66), .len 1 (.t 65), (some (60, false)), []⟩, ⟨(some 67), .bin .neq (.t 63) (.t 66), (some (60, false)), []⟩, o 68 (.pick (.t 60) (.c (.b true)) (.t 67)), m 69 68, ⟨(some 70), .fieldAddr 3 none (.t 5), (some (69, false)), []⟩, ⟨(some 71), .load none (.t 70), (some (69, false)), []⟩, ⟨(some 72), .len 1 (.t 71), (some (69, false)), []⟩, ⟨(some 73), .fieldAddr 3 none (.t 6), (some (69, false)), []⟩, ⟨(some 74), .load none (.t 73), (some (69, false)), []⟩, ⟨(some 75), .len 1 (.t 74), (some (69, false)), []⟩, ⟨(some 76), .bin .neq (.t 72) (.t 75), (some (69, false)), []⟩, o 77 (.pick (.t 69) (.c (.b true)) (.t 76)), m 78 77, ⟨(some 79), .fieldAddr 1 none (.t 5), (some (78, false)), []⟩, ⟨(some 80), .load none (.t 79), (some (78, false)), []⟩, ⟨(some 81), .fieldAddr 1 none (.t 6), (some (78, false)), []⟩, ⟨(some 82), .load none (.t 81), (some (78, false)), []⟩, ⟨(some 83), .bin .neq (.t 80) (.t 82), (some (78, false)), []⟩, ⟨(some 84), .mv (.t 83), (some (78, false)), []⟩, ⟨(some 85), .load (some 4) (.t 5), (some (84, true)), []⟩, ⟨(some 86), .call (.fn 162) [(.t 85)], (some (84, true)), []⟩, ⟨(some 87), .not (.t 86), (some (84, true)), []⟩, ⟨(some 88), .pick (.t 84) (.t 87) (.c (.b false)), (some (78, false)), []⟩, o 89 (.pick (.t 78) (.c (.b true)) (.t 88))]) (.cond (.t 89) 
  (.seq (.region [o 4 (.mv (.c (.i .i64 70)))]) .ret) .skip)) 
  (.seq 
  (.seq (.region [o 90 (.fieldAddr 2 none (.t 5)), o 91 (.load none (.t 90)), o 92 (.len 1 (.t 91)), o 93 (.mv (.c (.i .i64 0)))]) (.block 1 (.loop 
  (.seq (.region [o 94 (.bin .lss (.t 93) (.t 92))]) 
  (.seq (.cond (.t 94) .skip (.exit 1)) 
  (.seq (.block 2 
  (.seq (.region [m 95 93, o 96 (.idxSl (some 3) (.t 91) (.t 93)), o 97 (.load (some 3) (.t 96)), o 11 (.alloc (.ag [(.b false), (.s []), .nilsl])), m 10 95, u (.store (some 3) (.t 11) (.t 97))]) 
  (.seq (.draw [⟨(some 99), .load (some 9) (.t 3), none, [7]⟩, o 100 (.fieldAddr 2 none (.t 6)), ⟨(some 101), .load none (.t 100), none, [7]⟩, m 102 10, o 103 (.idxSl (some 3) (.t 101) (.t 102)), ⟨(some 104), .load (some 3) (.t 103), none, [7]⟩, o 12 (.alloc (.ag [(.b false), (.s []), .nilsl])), o 105 (.call (.fn 163) [(.t 99), (.t 104), (.c .nilsl)]), m 98 105, o 106 (.extract (.t 98) 0), o 107 (.extract (.t 98) 1), u (.store (some 3) (.t 12) (.t 106)), m 13 107]) 
  (.seq (.region [m 108 13, o 109 (.not (.t 108)), m 110 109, ⟨(some 111), .mv (.t 0), (some (110, false)), []⟩, ⟨(some 112), .load (some 9) (.t 3), (some (110, false)), []⟩, ⟨(some 113), .load (some 3) (.t 11), (some (110, false)), []⟩, ⟨(some 114), .load (some 3) (.t 12), (some (110, false)), []⟩, ⟨(some 115), .call (.fn 164) [(.t 111), (.t 112), (.t 113), (.t 114)], (some (110, false)), []⟩, ⟨(some 116), .not (.t 115), (some (110, false)), []⟩, o 117 (.pick (.t 110) (.c (.b true)) (.t 116))]) (.cond (.t 117) 
  (.seq (.region [o 4 (.mv (.c (.i .i64 70)))]) .ret) .skip))))) (.region [o 118 (.bin .add (.t 93) (.c (.i .i64 1))), m 93 118]))))))) 
  (.seq (.region [o 4 (.mv (.c (.i .i64 0)))]) .ret)))))))⟩
def c114 : AFunc := ⟨2, 95, [(4, none)], (some 
  (.seq (.region [o 3 (.box (.t 1)), o 4 (.mv (.c (.i .i64 0)))]) 
  (.seq 
  (.seq (.region [o 13 (.fieldAddr 0 (some 4) (.t 3)), o 14 (.fieldAddr 0 none (.t 13)), o 15 (.load none (.t 14)), o 16 (.bin .neq (.t 15) (.c (.i .u8 16)))]) (.cond (.t 16) 
  (.seq (.region [o 4 (.mv (.c (.i .i64 0)))]) .ret) .skip)) 
  (.seq (.draw [m 18 0, o 19 (.nilCheck (.t 18)), o 20 (.fieldAddr 0 none (.t 19)), ⟨(some 21), .load none (.t 20), none, [12]⟩, o 22 (.fieldAddr 0 (some 4) (.t 3)), o 23 (.fieldAddr 1 none (.t 22)), ⟨(some 24), .load none (.t 23), none, [12]⟩, ⟨(some 25), .lookup (.inl 1) (.t 21) (.t 24) (.ag [(.i .u8 0), (.s []), .nilsl, .nilsl]) true, none, [12]⟩, m 17 25, o 26 (.extract (.t 17) 0), o 27 (.extract (.t 17) 1), o 5 (.alloc (.ag [(.i .u8 0), (.s []), .nilsl, .nilsl])), u (.store (some 4) (.t 5) (.t 26)), m 6 27]) 
  (.seq 
  (.seq (.region [m 28 6, o 29 (.not (.t 28))]) (.cond (.t 29) 
  (.seq (.region [o 4 (.mv (.c (.i .i64 71)))]) .ret) .skip)) 
  (.seq (.region [o 31 (.load (some 9) (.t 3)), o 32 (.fieldAddr 4 (some 4) (.t 3)), o 33 (.load (some 4) (.t 32)), o 34 (.call (.fn 160) [(.t 31), (.t 33), (.c .nilsl)]), m 30 34, o 35 (.extract (.t 30) 0), o 36 (.extract (.t 30) 1), o 7 (.alloc (.ag [(.i .u8 0), (.s []), .nilsl, .nilsl])), u (.store (some 4) (.t 7) (.t 35)), m 6 36]) 
  (.seq 
  (.seq (.region [m 37 6, o 38 (.not (.t 37))]) (.cond (.t 38) 
  (.seq (.region [o 4 (.mv (.c (.i .i64 70)))]) .ret) .skip)) 
  (.seq (.region [o 40 (.fieldAddr 0 (some 4) (.t 3)), o 41 (.load (some 4) (.t 40)), o 42 (.call (.fn 165) [(.t 41)]), m 39 42, o 43 (.extract (.t 39) 0), o 44 (.extract (.t 39) 1), m 8 43, m 9 44]) 
  (.seq 
  (.seq (.region [o 45 (.load (some 4) (.t 5)), m 46 8, o 47 (.call (.fn 166) [(.t 45), (.t 46)]), m 10 47]) 
  (.seq (.region [m 48 10, o 49 (.bin .gtr (.t 48) (.c (.i .i64 0)))]) (.cond (.t 49) 
  (.seq (.region [m 51 0, o 52 (.nilCheck (.t 51)), o 53 (.fieldAddr 1 none (.t 52)), o 54 (.load none (.t 53)), m 55 9, o 56 (.lookup (.inl 1) (.t 54) (.t 55) (.ag [(.b false), (.s []), .nilsl]) true), m 50 56, o 57 (.extract (.t 50) 0), o 58 (.extract (.t 50) 1), o 11 (.alloc (.ag [(.b false), (.s []), .nilsl])), u (.store (some 3) (.t 11) (.t 57)), m 12 58]) 
  (.seq 
  (.seq (.region [m 59 12, o 60 (.not (.t 59))]) (.cond (.t 60) 
  (.seq (.region [o 62 (.load (some 4) (.t 5)), o 63 (.load (some 4) (.t 7)), m 64 8, o 65 (.call (.fn 167) [(.t 62), (.t 63), (.t 64)]), m 61 65, o 66 (.extract (.t 61) 0), o 67 (.extract (.t 61) 1), u (.store (some 3) (.t 11) (.t 66)), m 12 67]) 
  (.seq 
  (.seq (.region [m 68 12, o 69 (.not (.t 68))]) (.cond (.t 69) 
  (.seq (.region [o 4 (.mv (.c (.i .i64 70)))]) .ret) .skip)) (.draw [m 70 0, o 71 (.nilCheck (.t 70)), o 72 (.fieldAddr 1 none (.t 71)), o 73 (.load none (.t 72)), m 74 9, o 75 (.load (some 3) (.t 11)), u (.mapUpd (.inl 1) (.t 73) (.t 74) (.t 75))]))) .skip)) 
  (.seq 
  (.seq (.draw [o 76 (.load (some 4) (.t 5)), m 78 10, ⟨(some 79), .load (some 3) (.t 11), none, [5]⟩, ⟨(some 84), .load (some 4) (.t 7), none, [5, 9]⟩, o 77 (.call (.fn 168) [(.t 76)]), o 80 (.call (.fn 169) [(.t 79)]), o 81 (.bin .sub (.t 80) (.c (.i .i64 1))), o 82 (.bin .mul (.t 78) (.t 81)), o 83 (.bin .add (.t 77) (.t 82)), o 85 (.call (.fn 168) [(.t 84)]), o 86 (.bin .neq (.t 83) (.t 85))]) (.cond (.t 86) 
  (.seq (.region [o 4 (.mv (.c (.i .i64 70)))]) .ret) .skip)) (.region [o 87 (.load (some 4) (.t 5)), m 88 8, o 89 (.load (some 3) (.t 11)), o 90 (.call (.fn 170) [(.t 87), (.t 88), (.t 89)]), u (.store (some 4) (.t 5) (.t 90))])))) .skip))) 
  (.seq 
  (.seq (.region [o 91 (.load (some 4) (.t 5)), o 92 (.load (some 4) (.t 7)), o 93 (.call (.fn 161) [(.t 91), (.t 92), (.c .nilsl)]), o 94 (.not (.t 93))]) (.cond (.t 94) 
  (.seq (.region [o 4 (.mv (.c (.i .i64 70)))]) .ret) .skip)) 
  (.seq (.region [o 4 (.mv (.c (.i .i64 0)))]) .ret)))))))))))⟩
def c115 : AFunc := ⟨2, 6, [(4, none)], (some (.seq (.region [o 2 (.box (.t 0)), o 3 (.box (.t 1)), o 4 (.mv (.c .nf))]) (.seq (.region [o 5 (.mkFunc (.func 171) [] [(.t 2), (.t 3)]), m 4 5]) .ret)))⟩
def c116 : AFunc := ⟨1, 61, [(2, (some (some 2)))], (some 
  (.seq (.region [o 2 (.alloc (.ag [.nilsl, .nilsl]))]) 
  (.seq (.region [o 3 (.alloc (.ag [.nilsl, .nilsl]))]) 
  (.seq 
  (.seq (.region [m 8 0, o 9 (.nilCheck (.t 8)), o 10 (.fieldAddr 0 none (.t 9)), o 11 (.load none (.t 10)), o 12 (.call (.fn 173) [(.t 11)]), o 13 (.call (.fn 53) [(.t 12)]), o 14 (.len 1 (.t 13)), o 15 (.mv (.c (.i .i64 0)))]) (.block 0 (.loop 
  (.seq (.region [o 16 (.bin .lss (.t 15) (.t 14))]) 
  (.seq (.cond (.t 16) .skip (.exit 0)) 
  (.seq (.block 1 
  (.seq (.region [o 17 (.idxSl none (.t 13) (.t 15)), o 18 (.load none (.t 17)), m 5 18]) (.draw [o 19 (.fieldAddr 0 none (.t 3)), ⟨(some 20), .load none (.t 19), none, [12]⟩, m 21 5, m 22 0, o 23 (.nilCheck (.t 22)), o 24 (.fieldAddr 0 none (.t 23)), o 25 (.load none (.t 24)), m 26 5, o 27 (.lookup (.inl 1) (.t 25) (.t 26) (.ag [(.i .u8 0), (.s []), .nilsl, .nilsl]) false), o 28 (.call (.fn 174) [(.t 27)]), o 29 (.build [(.s []), (.i .u8 0), (.s []), .nilsl, .nilsl] [(0, 1, (.t 21)), (1, 4, (.t 28))]), o 30 (.buildSlice (some 5) 1 [(.s []), (.i .u8 0), (.s []), .nilsl, .nilsl] [(0, (.t 29))]), o 31 (.append (some 5) 88 (.t 20) (.t 30)), o 32 (.fieldAddr 0 none (.t 3)), u (.store none (.t 32) (.t 31))]))) (.region [o 33 (.bin .add (.t 15) (.c (.i .i64 1))), m 15 33]))))))) 
  (.seq 
  (.seq (.region [m 34 0, o 35 (.nilCheck (.t 34)), o 36 (.fieldAddr 1 none (.t 35)), o 37 (.load none (.t 36)), o 38 (.call (.fn 175) [(.t 37)]), o 39 (.call (.fn 53) [(.t 38)]), o 40 (.len 1 (.t 39)), o 41 (.mv (.c (.i .i64 0)))]) (.block 2 (.loop 
  (.seq (.region [o 42 (.bin .lss (.t 41) (.t 40))]) 
  (.seq (.cond (.t 42) .skip (.exit 2)) 
  (.seq (.block 3 
  (.seq (.region [o 43 (.idxSl none (.t 39) (.t 41)), o 44 (.load none (.t 43)), m 7 44]) (.draw [o 45 (.fieldAddr 1 none (.t 3)), ⟨(some 46), .load none (.t 45), none, [12]⟩, m 47 7, m 48 0, o 49 (.nilCheck (.t 48)), o 50 (.fieldAddr 1 none (.t 49)), o 51 (.load none (.t 50)), m 52 7, o 53 (.lookup (.inl 1) (.t 51) (.t 52) (.ag [(.b false), (.s []), .nilsl]) false), o 54 (.call (.fn 176) [(.t 53)]), o 55 (.build [(.s []), (.b false), (.s []), .nilsl] [(0, 1, (.t 47)), (1, 3, (.t 54))]), o 56 (.buildSlice (some 4) 1 [(.s []), (.b false), (.s []), .nilsl] [(0, (.t 55))]), o 57 (.append (some 4) 64 (.t 46) (.t 56)), o 58 (.fieldAddr 1 none (.t 3)), u (.store none (.t 58) (.t 57))]))) (.region [o 59 (.bin .add (.t 41) (.c (.i .i64 1))), m 41 59]))))))) 
  (.seq (.region [o 60 (.load (some 2) (.t 3)), u (.store (some 2) (.t 2) (.t 60))]) .ret))))))⟩
def c117 : AFunc := ⟨1, 6, [(2, none)], (some (.seq (.region [o 2 (.mv (.c .nilsl))]) (.seq (.region [m 3 0, o 4 (.call (.fn 178) [(.t 3)]), o 5 (.call (.fn 177) [(.t 4), (.c (.f (.func 179) [] []))]), m 2 5]) .ret)))⟩
def c118 : AFunc := ⟨2, 25, [(4, none)], (some 
  (.seq (.region [o 4 (.mv (.c (.b false)))]) 
  (.seq 
  (.seq (.region [m 7 0, o 8 (.len 1 (.t 7)), o 9 (.mv (.c (.i .i64 0)))]) (.block 0 (.loop 
  (.seq (.region [o 10 (.bin .lss (.t 9) (.t 8))]) 
  (.seq (.cond (.t 10) .skip (.exit 0)) 
  (.seq (.block 1 
  (.seq (.region [o 11 (.idxSl (some 3) (.t 7) (.t 9)), o 12 (.load (some 3) (.t 11)), o 6 (.alloc (.ag [(.b false), (.s []), .nilsl])), u (.store (some 3) (.t 6) (.t 12))]) 
  (.seq (.region [m 13 1, o 14 (.load (some 3) (.t 6)), o 15 (.call (.val (.t 13)) [(.t 14)]), o 16 (.not (.t 15)), m 17 16, ⟨(some 18), .fieldAddr 2 none (.t 6), (some (17, false)), []⟩, ⟨(some 19), .load none (.t 18), (some (17, false)), []⟩, ⟨(some 20), .mv (.t 1), (some (17, false)), []⟩, ⟨(some 21), .call (.fn 118) [(.t 19), (.t 20)], (some (17, false)), []⟩, ⟨(some 22), .not (.t 21), (some (17, false)), []⟩, o 23 (.pick (.t 17) (.c (.b true)) (.t 22))]) (.cond (.t 23) 
  (.seq (.region [o 4 (.mv (.c (.b false)))]) .ret) .skip)))) (.region [o 24 (.bin .add (.t 9) (.c (.i .i64 1))), m 9 24]))))))) 
  (.seq (.region [o 4 (.mv (.c (.b true)))]) .ret))))⟩
def c119 : AFunc := ⟨2, 14, [(3, none)], (some 
  (.seq (.region [o 2 (.box (.t 0)), o 3 (.mv (.c (.b false)))]) 
  (.seq 
  (.seq (.region [o 4 (.fieldAddr 0 none (.t 2)), o 5 (.load none (.t 4)), o 6 (.not (.t 5))]) (.cond (.t 6) (.region [o 7 (.load none (.t 1)), o 8 (.fieldAddr 1 none (.t 2)), o 9 (.load none (.t 8)), o 10 (.fieldAddr 2 none (.t 2)), o 11 (.load none (.t 10)), o 12 (.len 1 (.t 11)), o 13 (.build [(.s []), (.i .i64 0)] [(0, 1, (.t 9)), (1, 1, (.t 12))]), u (.mapUpd (.inr [1, 0]) (.t 7) (.t 13) (.c (.b true)))]) .skip)) 
  (.seq (.region [o 3 (.mv (.c (.b true)))]) .ret))))⟩
def c121 : AFunc := ⟨1, 27, [(2, (some none)), (3, (some none)), (4, (some none))], (some 
  (.seq (.region [o 2 (.alloc .nilsl), o 3 (.alloc (.i .i64 0)), o 4 (.alloc (.i .i64 0))]) 
  (.seq 
  (.seq (.region [m 9 0, o 10 (.len 0 (.t 9)), o 11 (.bin .gtr (.t 10) (.c (.i .i64 16384)))]) (.cond (.t 11) 
  (.seq (.region [u (.store none (.t 2) (.c .nilsl)), u (.store none (.t 3) (.c (.i .i64 0))), u (.store none (.t 4) (.c (.i .i64 3)))]) .ret) .skip)) 
  (.seq (.region [o 5 (.alloc .nilsl)]) 
  (.seq (.region [m 12 0, o 13 (.build [(.i .i64 0), (.s [])] [(1, 1, (.t 12))]), o 6 (.alloc (.ag [(.i .i64 0), (.s [])])), u (.store (some 2) (.t 6) (.t 13))]) 
  (.seq 
  (.seq (.region [o 14 (.call (.fn 182) [(.t 6)])]) (.block 0 (.rangeFunc (.t 14) [15, 16] 
  (.seq (.region [o 7 (.alloc (.ag [(.i .u8 0), (.s []), (.i .i64 0)])), u (.store (some 3) (.t 7) (.t 15))]) (.region [m 8 16])) (.block 1 
  (.seq 
  (.seq (.region [m 17 8, o 18 (.bin .neq (.t 17) (.c (.i .i64 0)))]) (.cond (.t 18) 
  (.seq (.draw [o 19 (.fieldAddr 2 none (.t 7)), ⟨(some 20), .load none (.t 19), none, [4]⟩, m 21 8, u (.store none (.t 2) (.c .nilsl)), u (.store none (.t 3) (.t 20)), u (.store none (.t 4) (.t 21))]) .ret) .skip)) (.region [o 22 (.load none (.t 5)), o 23 (.load (some 3) (.t 7)), o 24 (.buildSlice (some 3) 1 [(.i .u8 0), (.s []), (.i .i64 0)] [(0, (.t 23))]), o 25 (.append (some 3) 32 (.t 22) (.t 24)), u (.store none (.t 5) (.t 25))])))))) 
  (.seq (.region [o 26 (.load none (.t 5)), u (.store none (.t 2) (.t 26)), u (.store none (.t 3) (.c (.i .i64 0))), u (.store none (.t 4) (.c (.i .i64 0)))]) .ret)))))))⟩
def c122 : AFunc := ⟨3, 17, [], (some 
  (.seq (.region [o 7 (.recover), o 8 (.assertC (.t 7) 187 (.ag [(.i .i64 0), (.i .i64 0)]) true), m 6 8, o 9 (.extract (.t 6) 0), o 10 (.extract (.t 6) 1), o 3 (.alloc (.ag [(.i .i64 0), (.i .i64 0)])), u (.store (some 2) (.t 3) (.t 9)), m 4 10]) 
  (.seq (.region [m 11 4]) (.cond (.t 11) 
  (.seq (.region [o 5 (.alloc (.ag [(.i .u8 0), (.s []), .nilsl, .nilsl]))]) (.draw [o 12 (.load (some 4) (.t 5)), o 13 (.fieldAddr 0 none (.t 3)), ⟨(some 14), .load none (.t 13), none, [6]⟩, o 15 (.fieldAddr 1 none (.t 3)), ⟨(some 16), .load none (.t 15), none, [6, 7]⟩, u (.store (some 4) (.t 0) (.t 12)), u (.store none (.t 1) (.t 14)), u (.store none (.t 2) (.t 16))])) .skip))))⟩
def c123 : AFunc := ⟨1, 13, [(2, (some (some 3)))], (some 
  (.seq (.region [o 2 (.alloc (.ag [(.i .u8 0), (.s []), (.i .i64 0)]))]) 
  (.seq (.draw [m 3 0, o 4 (.nilCheck (.t 3)), o 5 (.fieldAddr 0 none (.t 4)), o 6 (.load none (.t 5)), m 7 0, o 8 (.nilCheck (.t 7)), o 9 (.fieldAddr 1 none (.t 8)), o 10 (.load none (.t 9)), o 11 (.idxSl (some 3) (.t 6) (.t 10)), o 12 (.load (some 3) (.t 11)), u (.store (some 3) (.t 2) (.t 12))]) .ret)))⟩
def c125 : AFunc := ⟨2, 65, [(4, (some (some 4)))], (some 
  (.seq (.region [o 4 (.alloc (.ag [(.i .u8 0), (.s []), .nilsl, .nilsl]))]) 
  (.seq 
  (.seq (.region [m 9 1, o 10 (.bin .eql (.t 9) (.c (.i .i64 5)))]) (.cond (.t 10) 
  (.seq (.region [m 11 0, o 12 (.call (.fn 183) [(.t 11)]), u (.store (some 4) (.t 4) (.t 12))]) .ret) .skip)) 
  (.seq (.region [m 13 1, o 14 (.idxArr 5 (some 3) (.g 3) (.t 13)), o 15 (.load (some 3) (.t 14)), o 5 (.alloc (.ag [(.s []), (.i .u8 0), (.b false)])), u (.store (some 3) (.t 5) (.t 15))]) 
  (.seq (.region [m 16 0, m 17 1, o 18 (.bin .add (.t 17) (.c (.i .i64 1))), o 19 (.call (.fn 125) [(.t 16), (.t 18)]), o 6 (.alloc (.ag [(.i .u8 0), (.s []), .nilsl, .nilsl])), u (.store (some 4) (.t 6) (.t 19))]) 
  (.seq 
  (.seq (.region [o 20 (.fieldAddr 2 none (.t 5)), o 21 (.load none (.t 20))]) (.cond (.t 21) 
  (.seq 
  (.seq (.region [m 22 0, o 23 (.fieldAddr 0 none (.t 5)), o 24 (.load none (.t 23)), o 25 (.call (.fn 184) [(.t 22), (.t 24)])]) (.cond (.t 25) 
  (.seq (.region [m 26 0, o 27 (.nilCheck (.t 26)), o 28 (.fieldAddr 2 none (.t 27)), o 29 (.load none (.t 28)), o 30 (.bin .add (.t 29) (.c (.i .i64 1))), o 31 (.nilCheck (.t 26)), o 32 (.fieldAddr 2 none (.t 31)), u (.store none (.t 32) (.t 30))]) 
  (.seq (.region [m 33 0, m 34 1, o 35 (.call (.fn 125) [(.t 33), (.t 34)]), o 7 (.alloc (.ag [(.i .u8 0), (.s []), .nilsl, .nilsl])), u (.store (some 4) (.t 7) (.t 35))]) 
  (.seq (.region [m 36 0, o 37 (.nilCheck (.t 36)), o 38 (.fieldAddr 2 none (.t 37)), o 39 (.load none (.t 38)), o 40 (.bin .sub (.t 39) (.c (.i .i64 1))), o 41 (.nilCheck (.t 36)), o 42 (.fieldAddr 2 none (.t 41)), u (.store none (.t 42) (.t 40))]) (.region [o 43 (.fieldAddr 1 none (.t 5)), o 44 (.load none (.t 43)), o 45 (.load (some 4) (.t 6)), o 46 (.load (some 4) (.t 7)), o 47 (.buildSlice (some 4) 2 [(.i .u8 0), (.s []), .nilsl, .nilsl] [(0, (.t 45)), (1, (.t 46))]), o 48 (.build [(.i .u8 0), (.s []), .nilsl, .nilsl] [(0, 1, (.t 44)), (3, 1, (.t 47))]), u (.store (some 4) (.t 6) (.t 48))])))) .skip)) 
  (.seq (.region [o 49 (.load (some 4) (.t 6)), u (.store (some 4) (.t 4) (.t 49))]) .ret)) .skip)) 
  (.seq (.block 0 (.loop 
  (.seq 
  (.seq (.region [m 50 0, o 51 (.fieldAddr 0 none (.t 5)), o 52 (.load none (.t 51)), o 53 (.call (.fn 184) [(.t 50), (.t 52)])]) (.cond (.t 53) .skip (.exit 0))) (.block 1 
  (.seq (.region [m 54 0, m 55 1, o 56 (.bin .add (.t 55) (.c (.i .i64 1))), o 57 (.call (.fn 125) [(.t 54), (.t 56)]), o 8 (.alloc (.ag [(.i .u8 0), (.s []), .nilsl, .nilsl])), u (.store (some 4) (.t 8) (.t 57))]) (.region [o 58 (.fieldAddr 1 none (.t 5)), o 59 (.load none (.t 58)), o 60 (.load (some 4) (.t 6)), o 61 (.load (some 4) (.t 8)), o 62 (.buildSlice (some 4) 2 [(.i .u8 0), (.s []), .nilsl, .nilsl] [(0, (.t 60)), (1, (.t 61))]), o 63 (.build [(.i .u8 0), (.s []), .nilsl, .nilsl] [(0, 1, (.t 59)), (3, 1, (.t 62))]), u (.store (some 4) (.t 6) (.t 63))])))))) 
  (.seq (.region [o 64 (.load (some 4) (.t 6)), u (.store (some 4) (.t 4) (.t 64))]) .ret))))))))⟩
def c130 : AFunc := ⟨2, 18, [(4, none)], (some 
  (.seq (.region [o 4 (.mv (.c (.b false)))]) 
  (.seq (.region [m 5 0, o 6 (.len 0 (.t 5)), m 7 1, o 8 (.len 0 (.t 7)), o 9 (.bin .geq (.t 6) (.t 8)), m 10 9, ⟨(some 11), .mv (.t 0), (some (10, true)), []⟩, ⟨(some 12), .mv (.t 1), (some (10, true)), []⟩, ⟨(some 13), .len 0 (.t 12), (some (10, true)), []⟩, ⟨(some 14), .sliceStr (.t 11) none (some (.t 13)), (some (10, true)), []⟩, ⟨(some 15), .mv (.t 1), (some (10, true)), []⟩, ⟨(some 16), .bin .eql (.t 14) (.t 15), (some (10, true)), []⟩, o 17 (.pick (.t 10) (.t 16) (.c (.b false))), m 4 17]) .ret)))⟩
def c131 : AFunc := ⟨2, 143, [(4, none)], (some 
  (.seq (.region [o 4 (.mv (.c (.i .i64 0)))]) 
  (.seq (.region [m 14 1, o 15 (.len 0 (.t 14)), m 5 15]) 
  (.seq (.block 0 
  (.seq (.region [m 17 5, o 18 (.bin .eql (.t 17) (.c (.i .i64 0))), m 19 18, ⟨(some 20), .mv (.t 1), (some (19, false)), []⟩, ⟨(some 21), .mv (.t 0), (some (19, false)), []⟩, ⟨(some 22), .bin .eql (.t 20) (.t 21), (some (19, false)), []⟩, o 23 (.pick (.t 19) (.c (.b true)) (.t 22)), m 16 23]) (.cond (.t 16) 
  (.seq (.region [o 4 (.mv (.c (.i .i64 0)))]) .ret) 
  (.seq (.region [m 25 5, o 26 (.bin .eql (.t 25) (.c (.i .i64 1))), m 24 26]) (.cond (.t 24) 
  (.seq (.region [m 27 0, m 28 1, o 29 (.indexStr (.t 28) (.c (.i .i64 0))), o 30 (.call (.fn 190) [(.t 27), (.t 29)]), m 4 30]) .ret) 
  (.seq (.region [m 32 5, m 33 0, o 34 (.len 0 (.t 33)), o 35 (.bin .geq (.t 32) (.t 34)), m 31 35]) (.cond (.t 31) 
  (.seq (.region [o 4 (.mv (.c (.i .i64 (-1))))]) .ret) 
  (.seq (.region [m 37 5, o 38 (.load none (.g 4)), o 39 (.bin .leq (.t 37) (.t 38)), m 40 39, ⟨(some 41), .mv (.t 0), (some (40, true)), []⟩, ⟨(some 42), .len 0 (.t 41), (some (40, true)), []⟩, ⟨(some 43), .bin .leq (.t 42) (.c (.i .i64 64)), (some (40, true)), []⟩, o 44 (.pick (.t 40) (.t 43) (.c (.b false))), m 36 44]) (.cond (.t 36) 
  (.seq (.region [m 45 0, m 46 1, o 47 (.call (.fn 191) [(.t 45), (.t 46)]), m 4 47]) .ret) .skip))))))))) 
  (.seq (.region [m 48 1, o 49 (.indexStr (.t 48) (.c (.i .i64 0))), m 6 49]) 
  (.seq (.region [m 50 1, o 51 (.indexStr (.t 50) (.c (.i .i64 1))), m 7 51]) 
  (.seq (.region [o 8 (.mv (.c (.i .i64 0)))]) 
  (.seq (.region [m 52 0, o 53 (.len 0 (.t 52)), m 54 5, o 55 (.bin .sub (.t 53) (.t 54)), o 56 (.bin .add (.t 55) (.c (.i .i64 1))), m 9 56]) 
  (.seq (.region [o 10 (.mv (.c (.i .i64 0)))]) 
  (.seq (.block 1 (.loop 
  (.seq 
  (.seq (.region [m 57 8, m 58 9, o 59 (.bin .lss (.t 57) (.t 58))]) (.cond (.t 59) .skip (.exit 1))) (.block 2 
  (.seq 
  (.seq (.region [m 60 0, m 61 8, o 62 (.indexStr (.t 60) (.t 61)), m 63 6, o 64 (.bin .neq (.t 62) (.t 63))]) (.cond (.t 64) 
  (.seq (.region [m 65 0, m 66 8, o 67 (.bin .add (.t 66) (.c (.i .i64 1))), m 68 9, o 69 (.sliceStr (.t 65) (some (.t 67)) (some (.t 68))), m 70 6, o 71 (.call (.fn 190) [(.t 69), (.t 70)]), m 11 71]) 
  (.seq 
  (.seq (.region [m 72 11, o 73 (.bin .lss (.t 72) (.c (.i .i64 0)))]) (.cond (.t 73) 
  (.seq (.region [o 4 (.mv (.c (.i .i64 (-1))))]) .ret) .skip)) (.region [m 74 8, m 75 11, o 76 (.bin .add (.t 75) (.c (.i .i64 1))), o 77 (.bin .add (.t 74) (.t 76)), m 8 77]))) .skip)) 
  (.seq 
  (.seq (.region [m 78 0, m 79 8, o 80 (.bin .add (.t 79) (.c (.i .i64 1))), o 81 (.indexStr (.t 78) (.t 80)), m 82 7, o 83 (.bin .eql (.t 81) (.t 82)), m 84 83, ⟨(some 85), .mv (.t 0), (some (84, true)), []⟩, ⟨(some 86), .mv (.t 8), (some (84, true)), []⟩, ⟨(some 87), .mv (.t 8), (some (84, true)), []⟩, ⟨(some 88), .mv (.t 5), (some (84, true)), []⟩, ⟨(some 89), .bin .add (.t 87) (.t 88), (some (84, true)), []⟩, ⟨(some 90), .sliceStr (.t 85) (some (.t 86)) (some (.t 89)), (some (84, true)), []⟩, ⟨(some 91), .mv (.t 1), (some (84, true)), []⟩, ⟨(some 92), .bin .eql (.t 90) (.t 91), (some (84, true)), []⟩, o 93 (.pick (.t 84) (.t 92) (.c (.b false)))]) (.cond (.t 93) 
  (.seq (.region [m 94 8, m 4 94]) .ret) .skip)) 
  (.seq (.region [m 95 8, o 96 (.bin .add (.t 95) (.c (.i .i64 1))), m 8 96]) 
  (.seq (.region [m 97 10, o 98 (.bin .add (.t 97) (.c (.i .i64 1))), m 10 98]) 
  (.seq (.region [m 99 5, o 100 (.load none (.g 4)), o 101 (.bin .leq (.t 99) (.t 100)), m 102 101, ⟨(some 103), .mv (.t 10), (some (102, true)), []⟩, ⟨(some 104), .mv (.t 8), (some (102, true)), []⟩, ⟨(some 105), .call (.fn 192) [(.t 104)], (some (102, true)), []⟩, ⟨(some 106), .bin .gtr (.t 103) (.t 105), (some (102, true)), []⟩, o 107 (.pick (.t 102) (.t 106) (.c (.b false)))]) (.cond (.t 107) 
  (.seq (.region [m 108 0, m 109 8, o 110 (.sliceStr (.t 108) (some (.t 109)) none), m 111 1, o 112 (.call (.fn 191) [(.t 110), (.t 111)]), m 12 112]) 
  (.seq 
  (.seq (.region [m 113 12, o 114 (.bin .geq (.t 113) (.c (.i .i64 0)))]) (.cond (.t 114) 
  (.seq (.region [m 115 12, m 116 8, o 117 (.bin .add (.t 115) (.t 116)), m 4 117]) .ret) .skip)) 
  (.seq (.region [o 4 (.mv (.c (.i .i64 (-1))))]) .ret))) 
  (.seq (.region [m 118 5, o 119 (.load none (.g 4)), o 120 (.bin .gtr (.t 118) (.t 119)), m 121 120, ⟨(some 122), .mv (.t 10), (some (121, true)), []⟩, ⟨(some 123), .mv (.t 8), (some (121, true)), []⟩, ⟨(some 124), .bin .shr (.t 123) (.c (.i .u64 4)), (some (121, true)), []⟩, ⟨(some 125), .bin .add (.c (.i .i64 4)) (.t 124), (some (121, true)), []⟩, ⟨(some 126), .bin .geq (.t 122) (.t 125), (some (121, true)), []⟩, o 127 (.pick (.t 121) (.t 126) (.c (.b false))), m 128 127, ⟨(some 129), .mv (.t 8), (some (128, true)), []⟩, ⟨(some 130), .mv (.t 9), (some (128, true)), []⟩, ⟨(some 131), .bin .lss (.t 129) (.t 130), (some (128, true)), []⟩, o 132 (.pick (.t 128) (.t 131) (.c (.b false)))]) (.cond (.t 132) 
  (.seq (.region [m 133 0, m 134 8, o 135 (.sliceStr (.t 133) (some (.t 134)) none), m 136 1, o 137 (.call (.fn 193) [(.t 135), (.t 136)]), m 13 137]) 
  (.seq 
  (.seq (.region [m 138 13, o 139 (.bin .lss (.t 138) (.c (.i .i64 0)))]) (.cond (.t 139) 
  (.seq (.region [o 4 (.mv (.c (.i .i64 (-1))))]) .ret) .skip)) 
  (.seq (.region [m 140 8, m 141 13, o 142 (.bin .add (.t 140) (.t 141)), m 4 142]) .ret))) .skip)))))))))))) 
  (.seq (.region [o 4 (.mv (.c (.i .i64 (-1))))]) .ret)))))))))))⟩
def c132 : AFunc := ⟨4, 52, [], (some 
  (.seq 
  (.seq (.region [o 9 (.load none (.t 1)), o 10 (.len 0 (.t 9)), o 11 (.bin .eql (.t 10) (.c (.i .i64 0)))]) (.cond (.t 11) 
  (.seq (.block 0 (.loop 
  (.seq 
  (.seq (.region [o 12 (.load none (.t 2)), o 13 (.len 0 (.t 12)), o 14 (.bin .gtr (.t 13) (.c (.i .i64 0)))]) (.cond (.t 14) .skip (.exit 0))) (.block 1 
  (.seq (.region [o 16 (.load none (.t 2)), o 17 (.call (.fn 129) [(.t 16)]), m 15 17, o 18 (.extract (.t 15) 0), o 19 (.extract (.t 15) 1), m 5 18, m 6 19]) 
  (.seq 
  (.seq (.region [m 20 0, o 21 (.load none (.t 2)), m 22 6, o 23 (.sliceStr (.t 21) none (some (.t 22))), o 24 (.call (.val (.t 20)) [(.t 23)]), o 25 (.not (.t 24))]) (.cond (.t 25) .ret .skip)) (.region [o 26 (.load none (.t 2)), m 27 6, o 28 (.sliceStr (.t 26) (some (.t 27)) none), u (.store none (.t 2) (.t 28))]))))))) .ret) .skip)) 
  (.seq (.block 2 (.loop (.block 3 
  (.seq (.region [o 29 (.load none (.t 2)), o 30 (.load none (.t 1)), o 31 (.call (.fn 133) [(.t 29), (.t 30)]), m 7 31]) 
  (.seq 
  (.seq (.region [m 32 7, o 33 (.bin .lss (.t 32) (.c (.i .i64 0)))]) (.cond (.t 33) (.exit 2) .skip)) 
  (.seq (.region [o 34 (.load none (.t 2)), m 35 7, o 36 (.load none (.t 3)), o 37 (.bin .add (.t 35) (.t 36)), o 38 (.sliceStr (.t 34) none (some (.t 37))), m 8 38]) 
  (.seq 
  (.seq (.region [m 39 0, m 40 8, o 41 (.call (.val (.t 39)) [(.t 40)]), o 42 (.not (.t 41))]) (.cond (.t 42) .ret .skip)) (.region [o 43 (.load none (.t 2)), m 44 7, o 45 (.load none (.t 1)), o 46 (.len 0 (.t 45)), o 47 (.bin .add (.t 44) (.t 46)), o 48 (.sliceStr (.t 43) (some (.t 47)) none), u (.store none (.t 2) (.t 48))])))))))) (.region [m 49 0, o 50 (.load none (.t 2)), o 51 (.call (.val (.t 49)) [(.t 50)])]))))⟩
def c133 : AFunc := ⟨2, 8, [(4, none)], (some (.seq (.region [o 4 (.mv (.c (.i .i64 0)))]) (.seq (.region [m 5 0, m 6 1, o 7 (.call (.fn 131) [(.t 5), (.t 6)]), m 4 7]) .ret)))⟩
def c134 : AFunc := ⟨1, 6, [(2, none)], (some 
  (.seq (.region [o 2 (.mv (.c (.b false)))]) 
  (.seq (.region [o 3 (.call (.fn 101) [(.c (.f (.func 194) [] [])), (.c (.f (.func 140) [] []))]), m 4 0, o 5 (.call (.val (.t 3)) [(.t 4)]), m 2 5]) .ret)))⟩
def c135 : AFunc := ⟨3, 50, [(6, none)], (some 
  (.seq (.region [o 4 (.box (.t 1)), o 6 (.mv (.c (.b false)))]) 
  (.seq 
  (.seq (.region [m 7 0, m 8 2, o 9 (.call (.fn 95) [(.t 7), (.t 8)]), o 10 (.not (.t 9))]) (.cond (.t 10) 
  (.seq (.region [o 6 (.mv (.c (.b false)))]) .ret) .skip)) 
  (.seq 
  (.seq (.region [o 11 (.fieldAddr 0 none (.t 4)), o 12 (.load none (.t 11))]) (.cond (.t 12) 
  (.seq (.region [o 13 (.fieldAddr 2 none (.t 4)), o 14 (.load none (.t 13)), o 15 (.len 1 (.t 14)), o 16 (.bin .eql (.t 15) (.c (.i .i64 0))), m 17 16, ⟨(some 18), .fieldAddr 1 none (.t 4), (some (17, true)), []⟩, ⟨(some 19), .load none (.t 18), (some (17, true)), []⟩, ⟨(some 20), .call (.fn 134) [(.t 19)], (some (17, true)), []⟩, ⟨(some 21), .mv (.t 20), (some (17, true)), []⟩, ⟨(some 22), .mv (.t 0), (some (21, false)), []⟩, ⟨(some 23), .nilCheck (.t 22), (some (21, false)), []⟩, ⟨(some 24), .fieldAddr 0 none (.t 23), (some (21, false)), []⟩, ⟨(some 25), .load none (.t 24), (some (21, false)), []⟩, ⟨(some 26), .mv (.t 25), (some (21, false)), []⟩, ⟨(some 27), .fieldAddr 1 none (.t 4), (some (26, true)), []⟩, ⟨(some 28), .load none (.t 27), (some (26, true)), []⟩, ⟨(some 29), .call (.fn 107) [(.t 28)], (some (26, true)), []⟩, ⟨(some 30), .pick (.t 26) (.t 29) (.c (.b false)), (some (21, false)), []⟩, ⟨(some 31), .pick (.t 21) (.c (.b true)) (.t 30), (some (17, true)), []⟩, o 32 (.pick (.t 17) (.t 31) (.c (.b false))), m 6 32]) .ret) .skip)) 
  (.seq (.region [o 33 (.fieldAddr 2 none (.t 4)), o 34 (.load none (.t 33)), o 35 (.len 1 (.t 34)), o 36 (.bin .leq (.t 35) (.c (.i .i64 4))), m 37 36, ⟨(some 38), .fieldAddr 1 none (.t 4), (some (37, true)), []⟩, ⟨(some 39), .load none (.t 38), (some (37, true)), []⟩, ⟨(some 40), .call (.fn 142) [(.t 39)], (some (37, true)), []⟩, o 41 (.pick (.t 37) (.t 40) (.c (.b false))), m 42 41, ⟨(some 43), .mv (.t 0), (some (42, true)), []⟩, ⟨(some 44), .fieldAddr 2 none (.t 4), (some (42, true)), []⟩, ⟨(some 45), .load none (.t 44), (some (42, true)), []⟩, ⟨(some 46), .mv (.t 2), (some (42, true)), []⟩, ⟨(some 47), .bin .add (.t 46) (.c (.i .i64 1)), (some (42, true)), []⟩, ⟨(some 48), .call (.fn 98) [(.t 43), (.t 45), (.t 47)], (some (42, true)), []⟩, o 49 (.pick (.t 42) (.t 48) (.c (.b false))), m 6 49]) .ret)))))⟩
def c136 : AFunc := ⟨2, 19, [(4, none)], (some 
  (.seq (.region [o 4 (.mv (.c (.i .i64 0)))]) 
  (.seq 
  (.seq (.region [m 6 0, o 7 (.len 1 (.t 6)), o 8 (.mv (.c (.i .i64 0)))]) (.block 0 (.loop 
  (.seq (.region [o 9 (.bin .lss (.t 8) (.t 7))]) 
  (.seq (.cond (.t 9) .skip (.exit 0)) 
  (.seq (.block 1 
  (.seq (.region [m 10 8, m 5 10]) 
  (.seq (.region [m 11 1, m 12 0, m 13 5, o 14 (.idxSl (some 4) (.t 12) (.t 13)), o 15 (.load (some 4) (.t 14)), o 16 (.call (.val (.t 11)) [(.t 15)])]) (.cond (.t 16) 
  (.seq (.region [m 17 5, m 4 17]) .ret) .skip)))) (.region [o 18 (.bin .add (.t 8) (.c (.i .i64 1))), m 8 18]))))))) 
  (.seq (.region [o 4 (.mv (.c (.i .i64 (-1))))]) .ret))))⟩
def c137 : AFunc := ⟨3, 37, [(4, none)], (some 
  (.seq (.region [o 4 (.mv (.c (.b false)))]) 
  (.seq 
  (.seq (.draw [m 6 0, o 7 (.len 0 (.t 6)), o 8 (.bin .lss (.t 7) (.c (.i .i64 1))), m 9 8, ⟨(some 10), .mv (.t 0), (some (9, false)), []⟩, ⟨(some 11), .len 0 (.t 10), (some (9, false)), []⟩, ⟨(some 12), .bin .gtr (.t 11) (.c (.i .i64 16)), (some (9, false)), []⟩, o 13 (.pick (.t 9) (.c (.b true)) (.t 12)), m 14 13, ⟨(some 15), .mv (.t 0), (some (14, false)), []⟩, ⟨(some 16), .call (.fn 138) [(.t 15)], (some (14, false)), []⟩, o 17 (.pick (.t 14) (.c (.b true)) (.t 16)), m 18 17, ⟨(some 19), .load none (.t 1), (some (18, false)), []⟩, ⟨(some 20), .mv (.t 0), (some (18, false)), []⟩, ⟨(some 21), .indexStr (.t 20) (.c (.i .i64 0)), (some (18, false)), []⟩, ⟨(some 22), .call (.val (.t 19)) [(.t 21)], (some (18, false)), []⟩, ⟨(some 23), .not (.t 22), (some (18, false)), []⟩, o 24 (.pick (.t 18) (.c (.b true)) (.t 23))]) (.cond (.t 24) 
  (.seq (.region [o 4 (.mv (.c (.b false)))]) .ret) .skip)) 
  (.seq 
  (.seq (.region [o 5 (.mv (.c (.i .i64 1)))]) (.block 0 (.loop 
  (.seq 
  (.seq (.region [m 25 5, m 26 0, o 27 (.len 0 (.t 26)), o 28 (.bin .lss (.t 25) (.t 27))]) (.cond (.t 28) .skip (.exit 0))) 
  (.seq (.block 1 
  (.seq (.draw [o 31 (.load none (.t 2)), m 32 0, m 33 5, o 34 (.indexStr (.t 32) (.t 33)), o 35 (.call (.val (.t 31)) [(.t 34)]), o 36 (.not (.t 35))]) (.cond (.t 36) 
  (.seq (.region [o 4 (.mv (.c (.b false)))]) .ret) .skip))) (.region [m 29 5, o 30 (.bin .add (.t 29) (.c (.i .i64 1))), m 5 30])))))) 
  (.seq (.region [o 4 (.mv (.c (.b true)))]) .ret)))))⟩
def c138 : AFunc := ⟨1, 11, [(2, none)], (some 
  (.seq (.region [o 2 (.mv (.c (.b false)))]) 
  (.seq 
  (.seq (.region [m 3 0]) (.block 0 
  (.seq 
  (.seq (.region [o 5 (.bin .eql (.t 3) (.c (.s [97, 108, 108]))), m 4 5]) (.cond (.t 4) .skip 
  (.seq (.region [o 6 (.bin .eql (.t 3) (.c (.s [115, 111, 109, 101]))), m 4 6]) (.cond (.t 4) .skip 
  (.seq (.region [o 7 (.bin .eql (.t 3) (.c (.s [102, 97, 108, 115, 101]))), m 4 7]) (.cond (.t 4) .skip 
  (.seq (.region [o 8 (.bin .eql (.t 3) (.c (.s [110, 101, 120, 116]))), m 4 8]) (.cond (.t 4) .skip 
  (.seq (.region [o 9 (.bin .eql (.t 3) (.c (.s [97, 108, 119, 97, 121, 115]))), m 4 9]) (.cond (.t 4) .skip (.region [o 10 (.bin .eql (.t 3) (.c (.s [117, 110, 116, 105, 108]))), m 4 10]))))))))))) (.cond (.t 4) 
  (.seq (.region [o 2 (.mv (.c (.b true)))]) .ret) .skip)))) 
  (.seq (.region [o 2 (.mv (.c (.b false)))]) .ret))))⟩
def c141 : AFunc := ⟨2, 8, [(4, none)], (some (.seq (.region [o 4 (.mv (.c (.b false)))]) (.seq (.region [m 5 0, m 6 1, o 7 (.call (.fn 130) [(.t 5), (.t 6)]), m 4 7]) .ret)))⟩
def c142 : AFunc := ⟨1, 6, [(2, none)], (some 
  (.seq (.region [o 2 (.mv (.c (.b false)))]) 
  (.seq (.region [o 3 (.call (.fn 101) [(.c (.f (.func 195) [] [])), (.c (.f (.func 103) [] []))]), m 4 0, o 5 (.call (.val (.t 3)) [(.t 4)]), m 2 5]) .ret)))⟩
def c143 : AFunc := ⟨3, 49, [], (some 
  (.seq (.region [m 8 1, o 9 (.bin .add (.t 8) (.c (.i .i64 1))), m 6 9]) (.block 0 (.loop 
  (.seq 
  (.seq (.region [m 10 6, m 11 2, o 12 (.bin .lss (.t 10) (.t 11))]) (.cond (.t 12) .skip (.exit 0))) 
  (.seq (.block 1 
  (.seq (.region [m 15 6, m 7 15]) (.block 2 (.loop 
  (.seq 
  (.seq (.draw [m 16 7, m 17 1, o 18 (.bin .gtr (.t 16) (.t 17)), m 19 18, ⟨(some 20), .mv (.t 0), (some (19, true)), []⟩, ⟨(some 21), .mv (.t 7), (some (19, true)), []⟩, ⟨(some 22), .idxSl none (.t 20) (.t 21), (some (19, true)), []⟩, ⟨(some 23), .load none (.t 22), (some (19, true)), []⟩, ⟨(some 24), .mv (.t 0), (some (19, true)), []⟩, ⟨(some 25), .mv (.t 7), (some (19, true)), []⟩, ⟨(some 26), .bin .sub (.t 25) (.c (.i .i64 1)), (some (19, true)), []⟩, ⟨(some 27), .idxSl none (.t 24) (.t 26), (some (19, true)), []⟩, ⟨(some 28), .load none (.t 27), (some (19, true)), []⟩, ⟨(some 29), .call (.fn 149) [(.t 23), (.t 28)], (some (19, true)), []⟩, o 30 (.pick (.t 19) (.t 29) (.c (.b false)))]) (.cond (.t 30) .skip (.exit 2))) 
  (.seq (.block 3 (.draw [m 33 0, m 34 7, m 35 0, m 36 7, o 37 (.bin .sub (.t 36) (.c (.i .i64 1))), m 38 0, m 39 7, o 40 (.bin .sub (.t 39) (.c (.i .i64 1))), o 41 (.idxSl none (.t 38) (.t 40)), o 42 (.load none (.t 41)), m 43 0, m 44 7, o 45 (.idxSl none (.t 43) (.t 44)), o 46 (.load none (.t 45)), o 47 (.idxSl none (.t 33) (.t 34)), u (.store none (.t 47) (.t 42)), o 48 (.idxSl none (.t 35) (.t 37)), u (.store none (.t 48) (.t 46))])) (.region [m 31 7, o 32 (.bin .sub (.t 31) (.c (.i .i64 1))), m 7 32]))))))) (.region [m 13 6, o 14 (.bin .add (.t 13) (.c (.i .i64 1))), m 6 14])))))))⟩
def c149 : AFunc := ⟨2, 17, [(4, none)], (some 
  (.seq (.region [o 4 (.mv (.c (.b false)))]) 
  (.seq (.region [m 5 0, o 6 (.call (.fn 201) [(.t 5)]), m 7 6, ⟨(some 8), .mv (.t 1), (some (7, true)), []⟩, ⟨(some 9), .call (.fn 201) [(.t 8)], (some (7, true)), []⟩, ⟨(some 10), .not (.t 9), (some (7, true)), []⟩, o 11 (.pick (.t 7) (.t 10) (.c (.b false))), m 12 11, ⟨(some 13), .mv (.t 0), (some (12, false)), []⟩, ⟨(some 14), .mv (.t 1), (some (12, false)), []⟩, ⟨(some 15), .bin .lss (.t 13) (.t 14), (some (12, false)), []⟩, o 16 (.pick (.t 12) (.c (.b true)) (.t 15)), m 4 16]) .ret)))⟩
def c153 : AFunc := ⟨1, 25, [(2, none)], (some 
  (.seq (.region [o 2 (.mv (.c (.i .i64 0)))]) 
  (.seq 
  (.seq (.region [m 3 0, o 4 (.bin .geq (.t 3) (.c (.i .u64 4294967296)))]) (.cond (.t 4) 
  (.seq (.region [m 5 0, o 6 (.bin .shr (.t 5) (.c (.i .u64 32))), m 0 6]) (.region [o 2 (.mv (.c (.i .i64 32)))])) .skip)) 
  (.seq 
  (.seq (.region [m 7 0, o 8 (.bin .geq (.t 7) (.c (.i .u64 65536)))]) (.cond (.t 8) 
  (.seq (.region [m 9 0, o 10 (.bin .shr (.t 9) (.c (.i .u64 16))), m 0 10]) (.region [m 11 2, o 12 (.bin .add (.t 11) (.c (.i .i64 16))), m 2 12])) .skip)) 
  (.seq 
  (.seq (.region [m 13 0, o 14 (.bin .geq (.t 13) (.c (.i .u64 256)))]) (.cond (.t 14) 
  (.seq (.region [m 15 0, o 16 (.bin .shr (.t 15) (.c (.i .u64 8))), m 0 16]) (.region [m 17 2, o 18 (.bin .add (.t 17) (.c (.i .i64 8))), m 2 18])) .skip)) 
  (.seq (.region [m 19 2, m 20 0, o 21 (.conv .u8 (.t 20)), o 22 (.indexStr (.c (.s [0, 1, 2, 2, 3, 3, 3, 3, 4, 4, 4, 4, 4, 4, 4, 4, 5, 5, 5, 5, 5, 5, 5, 5, 5, 5, 5, 5, 5, 5, 5, 5, 6, 6, 6, 6, 6, 6, 6, 6, 6, 6, 6, 6, 6, 6, 6, 6, 6, 6, 6, 6, 6, 6, 6, 6, 6, 6, 6, 6, 6, 6, 6, 6, 7, 7, 7, 7, 7, 7, 7, 7, 7, 7, 7, 7, 7, 7, 7, 7, 7, 7, 7, 7, 7, 7, 7, 7, 7, 7, 7, 7, 7, 7, 7, 7, 7, 7, 7, 7, 7, 7, 7, 7, 7, 7, 7, 7, 7, 7, 7, 7, 7, 7, 7, 7, 7, 7, 7, 7, 7, 7, 7, 7, 7, 7, 7, 7, 8, 8, 8, 8, 8, 8, 8, 8, 8, 8, 8, 8, 8, 8, 8, 8, 8, 8, 8, 8, 8, 8, 8, 8, 8, 8, 8, 8, 8, 8, 8, 8, 8, 8, 8, 8, 8, 8, 8, 8, 8, 8, 8, 8, 8, 8, 8, 8, 8, 8, 8, 8, 8, 8, 8, 8, 8, 8, 8, 8, 8, 8, 8, 8, 8, 8, 8, 8, 8, 8, 8, 8, 8, 8, 8, 8, 8, 8, 8, 8, 8, 8, 8, 8, 8, 8, 8, 8, 8, 8, 8, 8, 8, 8, 8, 8, 8, 8, 8, 8, 8, 8, 8, 8, 8, 8, 8, 8, 8, 8, 8, 8, 8, 8, 8, 8, 8, 8, 8, 8, 8, 8, 8, 8, 8, 8, 8, 8])) (.t 21)), o 23 (.conv .i64 (.t 22)), o 24 (.bin .add (.t 19) (.t 23)), m 2 24]) .ret))))))⟩
def c159 : AFunc := ⟨1, 20, [(2, none)], (some 
  (.seq (.region [o 2 (.mv (.c (.b false)))]) 
  (.seq 
  (.seq (.region [o 3 (.mv (.c (.i .i64 1)))]) (.block 0 (.loop 
  (.seq 
  (.seq (.region [m 4 3, m 5 0, o 6 (.len 1 (.t 5)), o 7 (.bin .lss (.t 4) (.t 6))]) (.cond (.t 7) .skip (.exit 0))) 
  (.seq (.block 1 
  (.seq (.draw [m 10 0, m 11 3, o 12 (.bin .sub (.t 11) (.c (.i .i64 1))), o 13 (.idxSl none (.t 10) (.t 12)), o 14 (.load none (.t 13)), m 15 0, m 16 3, o 17 (.idxSl none (.t 15) (.t 16)), o 18 (.load none (.t 17)), o 19 (.bin .geq (.t 14) (.t 18))]) (.cond (.t 19) 
  (.seq (.region [o 2 (.mv (.c (.b false)))]) .ret) .skip))) (.region [m 8 3, o 9 (.bin .add (.t 8) (.c (.i .i64 1))), m 3 9])))))) 
  (.seq (.region [o 2 (.mv (.c (.b true)))]) .ret))))⟩
def c160 : AFunc := ⟨3, 83, [(6, (some (some 4))), (7, none)], (some 
  (.seq (.region [o 3 (.box (.t 0)), o 4 (.box (.t 1)), o 6 (.alloc (.ag [(.i .u8 0), (.s []), .nilsl, .nilsl])), o 7 (.mv (.c (.b false)))]) 
  (.seq (.region [o 17 (.fieldAddr 0 none (.t 4)), o 18 (.load none (.t 17)), o 19 (.fieldAddr 1 none (.t 4)), o 20 (.load none (.t 19)), o 21 (.build [(.i .u8 0), (.s []), .nilsl, .nilsl] [(0, 1, (.t 18)), (1, 1, (.t 20))]), o 8 (.alloc (.ag [(.i .u8 0), (.s []), .nilsl, .nilsl])), u (.store (some 4) (.t 8) (.t 21))]) 
  (.seq 
  (.seq (.region [o 22 (.fieldAddr 2 none (.t 4)), o 23 (.load none (.t 22)), o 24 (.len 1 (.t 23)), o 25 (.mv (.c (.i .i64 0)))]) (.block 0 (.loop 
  (.seq (.region [o 26 (.bin .lss (.t 25) (.t 24))]) 
  (.seq (.cond (.t 26) .skip (.exit 0)) 
  (.seq (.block 1 
  (.seq (.region [o 27 (.idxSl (some 3) (.t 23) (.t 25)), o 28 (.load (some 3) (.t 27)), o 10 (.alloc (.ag [(.b false), (.s []), .nilsl])), u (.store (some 3) (.t 10) (.t 28))]) 
  (.seq (.region [o 30 (.load (some 9) (.t 3)), o 31 (.load (some 3) (.t 10)), m 32 2, o 33 (.call (.fn 163) [(.t 30), (.t 31), (.t 32)]), m 29 33, o 34 (.extract (.t 29) 0), o 35 (.extract (.t 29) 1), o 11 (.alloc (.ag [(.b false), (.s []), .nilsl])), u (.store (some 3) (.t 11) (.t 34)), m 12 35]) 
  (.seq 
  (.seq (.region [m 36 12, o 37 (.not (.t 36))]) (.cond (.t 37) 
  (.seq (.region [o 38 (.build [(.i .u8 0), (.s []), .nilsl, .nilsl] []), u (.store (some 4) (.t 6) (.t 38)), o 7 (.mv (.c (.b false)))]) .ret) .skip)) (.region [o 39 (.fieldAddr 2 none (.t 8)), o 40 (.load none (.t 39)), o 41 (.load (some 3) (.t 11)), o 42 (.buildSlice (some 3) 1 [(.b false), (.s []), .nilsl] [(0, (.t 41))]), o 43 (.append (some 3) 48 (.t 40) (.t 42)), o 44 (.fieldAddr 2 none (.t 8)), u (.store none (.t 44) (.t 43))]))))) (.region [o 45 (.bin .add (.t 25) (.c (.i .i64 1))), m 25 45]))))))) 
  (.seq 
  (.seq (.region [o 46 (.load (some 4) (.t 4)), o 47 (.call (.fn 162) [(.t 46)])]) (.cond (.t 47) (.draw [m 48 2, m 49 2, ⟨(some 50), .len 1 (.t 49), none, [9]⟩, m 51 2, ⟨(some 52), .len 1 (.t 51), none, [9]⟩, o 53 (.sliceSl none (.t 48) none (some (.t 50)) (some (.t 52))), o 54 (.fieldAddr 1 none (.t 4)), ⟨(some 55), .load none (.t 54), none, [9]⟩, o 56 (.buildSlice none 1 [(.s [])] [(0, (.t 55))]), o 57 (.append none 16 (.t 53) (.t 56)), m 2 57]) .skip)) 
  (.seq 
  (.seq (.region [o 58 (.fieldAddr 3 none (.t 4)), o 59 (.load none (.t 58)), o 60 (.len 1 (.t 59)), o 61 (.mv (.c (.i .i64 0)))]) (.block 2 (.loop 
  (.seq (.region [o 62 (.bin .lss (.t 61) (.t 60))]) 
  (.seq (.cond (.t 62) .skip (.exit 2)) 
  (.seq (.block 3 
  (.seq (.region [o 63 (.idxSl (some 4) (.t 59) (.t 61)), o 64 (.load (some 4) (.t 63)), o 14 (.alloc (.ag [(.i .u8 0), (.s []), .nilsl, .nilsl])), u (.store (some 4) (.t 14) (.t 64))]) 
  (.seq (.region [o 66 (.load (some 9) (.t 3)), o 67 (.load (some 4) (.t 14)), m 68 2, o 69 (.call (.fn 160) [(.t 66), (.t 67), (.t 68)]), m 65 69, o 70 (.extract (.t 65) 0), o 71 (.extract (.t 65) 1), o 15 (.alloc (.ag [(.i .u8 0), (.s []), .nilsl, .nilsl])), u (.store (some 4) (.t 15) (.t 70)), m 16 71]) 
  (.seq 
  (.seq (.region [m 72 16, o 73 (.not (.t 72))]) (.cond (.t 73) 
  (.seq (.region [o 74 (.build [(.i .u8 0), (.s []), .nilsl, .nilsl] []), u (.store (some 4) (.t 6) (.t 74)), o 7 (.mv (.c (.b false)))]) .ret) .skip)) (.region [o 75 (.fieldAddr 3 none (.t 8)), o 76 (.load none (.t 75)), o 77 (.load (some 4) (.t 15)), o 78 (.buildSlice (some 4) 1 [(.i .u8 0), (.s []), .nilsl, .nilsl] [(0, (.t 77))]), o 79 (.append (some 4) 72 (.t 76) (.t 78)), o 80 (.fieldAddr 3 none (.t 8)), u (.store none (.t 80) (.t 79))]))))) (.region [o 81 (.bin .add (.t 61) (.c (.i .i64 1))), m 61 81]))))))) 
  (.seq (.region [o 82 (.load (some 4) (.t 8)), u (.store (some 4) (.t 6) (.t 82)), o 7 (.mv (.c (.b true)))]) .ret)))))))⟩
def c162 : AFunc := ⟨1, 11, [(2, none)], (some 
  (.seq (.region [o 1 (.box (.t 0)), o 2 (.mv (.c (.b false)))]) 
  (.seq (.region [o 3 (.fieldAddr 0 none (.t 1)), o 4 (.load none (.t 3)), o 5 (.bin .eql (.t 4) (.c (.i .u8 8))), m 6 5, ⟨(some 7), .fieldAddr 0 none (.t 1), (some (6, false)), []⟩, ⟨(some 8), .load none (.t 7), (some (6, false)), []⟩, ⟨(some 9), .bin .eql (.t 8) (.c (.i .u8 9)), (some (6, false)), []⟩, o 10 (.pick (.t 6) (.c (.b true)) (.t 9)), m 2 10]) .ret)))⟩
def c171 : AFunc := ⟨3, 9, [], (some (.region [o 4 (.load (some 4) (.t 1)), o 5 (.load (some 4) (.t 2)), o 6 (.build [(.i .u8 0), (.s []), .nilsl, .nilsl, (.i .u8 0), (.s []), .nilsl, .nilsl, .nilsl] [(0, 4, (.t 4)), (4, 4, (.t 5)), (8, 1, (.c .nilsl))]), m 7 0, o 8 (.call (.fn 172) [(.t 6), (.t 7)])]))⟩
def c172 : AFunc := ⟨2, 61, [(4, none)], (some 
  (.seq (.region [o 2 (.box (.t 0)), o 4 (.mv (.c (.b false)))]) 
  (.seq 
  (.seq (.region [m 7 1, o 8 (.load (some 9) (.t 2)), o 9 (.call (.val (.t 7)) [(.t 8)]), o 10 (.not (.t 9))]) (.cond (.t 10) 
  (.seq (.region [o 4 (.mv (.c (.b false)))]) .ret) .skip)) 
  (.seq (.region [o 11 (.fieldAddr 8 none (.t 2)), o 12 (.load none (.t 11)), m 5 12]) 
  (.seq 
  (.seq (.region [o 13 (.fieldAddr 0 (some 4) (.t 2)), o 14 (.load (some 4) (.t 13)), o 15 (.call (.fn 162) [(.t 14)])]) (.cond (.t 15) (.draw [m 16 5, m 17 5, ⟨(some 18), .len 1 (.t 17), none, [14]⟩, m 19 5, ⟨(some 20), .len 1 (.t 19), none, [14]⟩, o 21 (.sliceSl (some 2) (.t 16) none (some (.t 18)) (some (.t 20))), o 22 (.fieldAddr 0 (some 4) (.t 2)), o 23 (.fieldAddr 1 none (.t 22)), ⟨(some 24), .load none (.t 23), none, [14]⟩, o 25 (.fieldAddr 4 (some 4) (.t 2)), o 26 (.fieldAddr 1 none (.t 25)), ⟨(some 27), .load none (.t 26), none, [14]⟩, o 28 (.build [(.s []), (.s [])] [(0, 1, (.t 24)), (1, 1, (.t 27))]), o 29 (.buildSlice (some 2) 1 [(.s []), (.s [])] [(0, (.t 28))]), o 30 (.append (some 2) 32 (.t 21) (.t 29)), m 5 30]) .skip)) 
  (.seq 
  (.seq (.region [o 31 (.fieldAddr 0 (some 4) (.t 2)), o 32 (.fieldAddr 3 none (.t 31)), o 33 (.load none (.t 32)), o 34 (.len 1 (.t 33)), o 35 (.fieldAddr 4 (some 4) (.t 2)), o 36 (.fieldAddr 3 none (.t 35)), o 37 (.load none (.t 36)), o 38 (.len 1 (.t 37)), o 39 (.minmax false (.t 34) (.t 38)), o 40 (.mv (.c (.i .i64 0)))]) (.block 0 (.loop 
  (.seq (.region [o 41 (.bin .lss (.t 40) (.t 39))]) 
  (.seq (.cond (.t 41) .skip (.exit 0)) 
  (.seq (.block 1 
  (.seq (.region [m 42 40, m 6 42]) 
  (.seq (.draw [o 43 (.fieldAddr 0 (some 4) (.t 2)), o 44 (.fieldAddr 3 none (.t 43)), o 45 (.load none (.t 44)), m 46 6, o 47 (.idxSl (some 4) (.t 45) (.t 46)), o 48 (.load (some 4) (.t 47)), o 49 (.fieldAddr 4 (some 4) (.t 2)), o 50 (.fieldAddr 3 none (.t 49)), o 51 (.load none (.t 50)), m 52 6, o 53 (.idxSl (some 4) (.t 51) (.t 52)), o 54 (.load (some 4) (.t 53)), m 55 5, o 56 (.build [(.i .u8 0), (.s []), .nilsl, .nilsl, (.i .u8 0), (.s []), .nilsl, .nilsl, .nilsl] [(0, 4, (.t 48)), (4, 4, (.t 54)), (8, 1, (.t 55))]), m 57 1, o 58 (.call (.fn 172) [(.t 56), (.t 57)]), o 59 (.not (.t 58))]) (.cond (.t 59) 
  (.seq (.region [o 4 (.mv (.c (.b false)))]) .ret) .skip)))) (.region [o 60 (.bin .add (.t 40) (.c (.i .i64 1))), m 40 60]))))))) 
  (.seq (.region [o 4 (.mv (.c (.b true)))]) .ret)))))))⟩
def c173 : AFunc := ⟨1, 4, [(2, none)], (some (.seq (.region [o 1 (.box (.t 0)), o 2 (.mv (.c .nf))]) (.seq (.region [o 3 (.mkFunc (.func 217) [] [(.t 1)]), m 2 3]) .ret)))⟩
def c174 : AFunc := ⟨1, 14, [(2, (some (some 4)))], (some 
  (.seq (.region [o 1 (.box (.t 0)), o 2 (.alloc (.ag [(.i .u8 0), (.s []), .nilsl, .nilsl]))]) 
  (.seq (.draw [o 3 (.fieldAddr 0 none (.t 1)), ⟨(some 4), .load none (.t 3), none, [9, 11]⟩, o 5 (.fieldAddr 1 none (.t 1)), ⟨(some 6), .load none (.t 5), none, [9, 11]⟩, o 7 (.fieldAddr 2 none (.t 1)), o 8 (.load none (.t 7)), o 10 (.fieldAddr 3 none (.t 1)), ⟨(some 11), .load none (.t 10), none, [9]⟩, o 9 (.call (.fn 218) [(.t 8), (.c (.f (.func 219) [] []))]), o 12 (.call (.fn 220) [(.t 11), (.c (.f (.func 174) [] []))]), o 13 (.build [(.i .u8 0), (.s []), .nilsl, .nilsl] [(0, 1, (.t 4)), (1, 1, (.t 6)), (2, 1, (.t 9)), (3, 1, (.t 12))]), u (.store (some 4) (.t 2) (.t 13))]) .ret)))⟩
def c175 : AFunc := ⟨1, 4, [(2, none)], (some (.seq (.region [o 1 (.box (.t 0)), o 2 (.mv (.c .nf))]) (.seq (.region [o 3 (.mkFunc (.func 221) [] [(.t 1)]), m 2 3]) .ret)))⟩
def c177 : AFunc := ⟨2, 12, [(4, none)], (some 
  (.seq (.region [o 4 (.mv (.c .nilsl))]) 
  (.seq (.region [m 6 0, o 7 (.call (.fn 222) [(.t 6)]), m 5 7]) 
  (.seq (.region [m 8 5, m 9 1, o 10 (.call (.fn 223) [(.t 8), (.t 9)])]) 
  (.seq (.region [m 11 5, m 4 11]) .ret)))))⟩
def c178 : AFunc := ⟨1, 4, [(2, none)], (some (.seq (.region [o 1 (.box (.t 0)), o 2 (.mv (.c .nf))]) (.seq (.region [o 3 (.mkFunc (.func 224) [] [(.t 1)]), m 2 3]) .ret)))⟩
def c179 : AFunc := ⟨2, 19, [(4, none)], (some 
  (.seq (.region [o 2 (.box (.t 0)), o 3 (.box (.t 1)), o 4 (.mv (.c (.i .i64 0)))]) 
  (.seq 
  (.seq (.region [o 6 (.fieldAddr 0 none (.t 2)), o 7 (.load none (.t 6)), o 8 (.fieldAddr 0 none (.t 3)), o 9 (.load none (.t 8)), o 10 (.call (.fn 180) [(.t 7), (.t 9)]), m 5 10]) 
  (.seq (.region [m 11 5, o 12 (.bin .neq (.t 11) (.c (.i .i64 0)))]) (.cond (.t 12) 
  (.seq (.region [m 13 5, m 4 13]) .ret) .skip))) 
  (.seq (.region [o 14 (.fieldAddr 1 none (.t 2)), o 15 (.load none (.t 14)), o 16 (.fieldAddr 1 none (.t 3)), o 17 (.load none (.t 16)), o 18 (.call (.fn 181) [(.t 15), (.t 17)]), m 4 18]) .ret))))⟩
def c180 : AFunc := ⟨2, 8, [(4, none)], (some (.seq (.region [o 4 (.mv (.c (.i .i64 0)))]) (.seq (.region [m 5 0, m 6 1, o 7 (.call (.fn 225) [(.t 5), (.t 6)]), m 4 7]) .ret)))⟩
def c182 : AFunc := ⟨1, 4, [(2, none)], (some (.seq (.region [o 1 (.box (.t 0)), o 2 (.mv (.c .nf))]) (.seq (.region [o 3 (.mkFunc (.func 227) [] [(.t 1)]), m 2 3]) .ret)))⟩
def c183 : AFunc := ⟨1, 57, [(2, (some (some 4)))], (some 
  (.seq (.region [o 2 (.alloc (.ag [(.i .u8 0), (.s []), .nilsl, .nilsl]))]) 
  (.seq (.region [m 6 0, o 7 (.call (.fn 230) [(.t 6)])]) 
  (.seq (.region [o 9 (.call (.fn 231) []), m 10 0, o 11 (.call (.fn 123) [(.t 10)]), o 12 (.field 1 none (.t 11)), o 13 (.lookup (.inl 1) (.t 9) (.t 12) (.i .u8 0) true), m 8 13, o 14 (.extract (.t 8) 0), o 15 (.extract (.t 8) 1), m 3 14, m 4 15]) 
  (.seq 
  (.seq (.region [m 16 4, o 17 (.not (.t 16))]) (.cond (.t 17) 
  (.seq (.region [m 18 0, o 19 (.call (.fn 232) [(.t 18)]), u (.store (some 4) (.t 2) (.t 19))]) .ret) .skip)) 
  (.seq (.region [m 20 0, o 21 (.nilCheck (.t 20)), o 22 (.fieldAddr 1 none (.t 21)), o 23 (.load none (.t 22)), o 24 (.bin .add (.t 23) (.c (.i .i64 1))), o 25 (.nilCheck (.t 20)), o 26 (.fieldAddr 1 none (.t 25)), u (.store none (.t 26) (.t 24))]) 
  (.seq (.region [m 27 3, o 28 (.build [(.i .u8 0), (.s []), .nilsl, .nilsl] [(0, 1, (.t 27))]), o 5 (.alloc (.ag [(.i .u8 0), (.s []), .nilsl, .nilsl])), u (.store (some 4) (.t 5) (.t 28))]) 
  (.seq 
  (.seq (.region [m 29 3, o 30 (.bin .eql (.t 29) (.c (.i .u8 8))), m 31 30, ⟨(some 32), .mv (.t 3), (some (31, false)), []⟩, ⟨(some 33), .bin .eql (.t 32) (.c (.i .u8 9)), (some (31, false)), []⟩, o 34 (.pick (.t 31) (.c (.b true)) (.t 33))]) (.cond (.t 34) (.region [m 35 0, o 36 (.call (.fn 233) [(.t 35), (.c (.i .u8 1)), (.c (.f (.func 134) [] []))]), o 37 (.fieldAddr 1 none (.t 5)), u (.store none (.t 37) (.t 36))]) .skip)) 
  (.seq (.region [m 38 0, o 39 (.nilCheck (.t 38)), o 40 (.fieldAddr 2 none (.t 39)), o 41 (.load none (.t 40)), o 42 (.bin .add (.t 41) (.c (.i .i64 1))), o 43 (.nilCheck (.t 38)), o 44 (.fieldAddr 2 none (.t 43)), u (.store none (.t 44) (.t 42))]) 
  (.seq (.region [m 45 0, o 46 (.call (.fn 183) [(.t 45)]), o 47 (.buildSlice (some 4) 1 [(.i .u8 0), (.s []), .nilsl, .nilsl] [(0, (.t 46))]), o 48 (.fieldAddr 3 none (.t 5)), u (.store none (.t 48) (.t 47))]) 
  (.seq (.region [m 49 0, o 50 (.nilCheck (.t 49)), o 51 (.fieldAddr 2 none (.t 50)), o 52 (.load none (.t 51)), o 53 (.bin .sub (.t 52) (.c (.i .i64 1))), o 54 (.nilCheck (.t 49)), o 55 (.fieldAddr 2 none (.t 54)), u (.store none (.t 55) (.t 53))]) 
  (.seq (.region [o 56 (.load (some 4) (.t 5)), u (.store (some 4) (.t 2) (.t 56))]) .ret))))))))))))⟩
def c184 : AFunc := ⟨2, 17, [(4, none)], (some 
  (.seq (.region [o 4 (.mv (.c (.b false)))]) 
  (.seq 
  (.seq (.region [m 5 0, o 6 (.call (.fn 123) [(.t 5)]), o 7 (.field 1 none (.t 6)), m 8 1, o 9 (.bin .neq (.t 7) (.t 8))]) (.cond (.t 9) 
  (.seq (.region [o 4 (.mv (.c (.b false)))]) .ret) .skip)) 
  (.seq (.region [m 10 0, o 11 (.nilCheck (.t 10)), o 12 (.fieldAddr 1 none (.t 11)), o 13 (.load none (.t 12)), o 14 (.bin .add (.t 13) (.c (.i .i64 1))), o 15 (.nilCheck (.t 10)), o 16 (.fieldAddr 1 none (.t 15)), u (.store none (.t 16) (.t 14))]) 
  (.seq (.region [o 4 (.mv (.c (.b true)))]) .ret)))))⟩
def c190 : AFunc := ⟨2, 8, [(4, none)], (some (.seq (.region [o 4 (.mv (.c (.i .i64 0)))]) (.seq (.region [m 5 0, m 6 1, o 7 (.call (.fn 235) [(.t 5), (.t 6)]), m 4 7]) .ret)))⟩
def c194 : AFunc := ⟨1, 9, [(2, none)], (some 
  (.seq (.region [o 2 (.mv (.c (.b false)))]) 
  (.seq (.region [m 3 0, o 4 (.bin .geq (.t 3) (.c (.i .u8 117))), m 5 4, ⟨(some 6), .mv (.t 0), (some (5, true)), []⟩, ⟨(some 7), .bin .leq (.t 6) (.c (.i .u8 122)), (some (5, true)), []⟩, o 8 (.pick (.t 5) (.t 7) (.c (.b false))), m 2 8]) .ret)))⟩
def c195 : AFunc := ⟨1, 9, [(2, none)], (some 
  (.seq (.region [o 2 (.mv (.c (.b false)))]) 
  (.seq (.region [m 3 0, o 4 (.bin .geq (.t 3) (.c (.i .u8 97))), m 5 4, ⟨(some 6), .mv (.t 0), (some (5, true)), []⟩, ⟨(some 7), .bin .leq (.t 6) (.c (.i .u8 116)), (some (5, true)), []⟩, o 8 (.pick (.t 5) (.t 7) (.c (.b false))), m 2 8]) .ret)))⟩
def c201 : AFunc := ⟨1, 6, [(2, none)], (some (.seq (.region [o 2 (.mv (.c (.b false)))]) (.seq (.region [m 3 0, m 4 0, o 5 (.bin .neq (.t 3) (.t 4)), m 2 5]) .ret)))⟩
def c217 : AFunc := ⟨2, 14, [], (some 
  (.seq (.region [o 4 (.load none (.t 1)), o 5 (.rangeMap (.t 4))]) (.block 0 (.loop 
  (.seq (.region [o 6 (.nextMap (.t 5)), o 7 (.extract (.t 6) 0)]) 
  (.seq (.cond (.t 7) .skip (.exit 0)) (.block 1 
  (.seq (.region [o 8 (.entry (.t 5)), o 9 (.extract (.t 8) 0), m 3 9]) 
  (.seq (.region [m 10 0, m 11 3, o 12 (.call (.val (.t 10)) [(.t 11)]), o 13 (.not (.t 12))]) (.cond (.t 13) .ret .skip))))))))))⟩
def c218 : AFunc := ⟨2, 28, [(4, none)], (some 
  (.seq (.region [o 4 (.mv (.c .nilsl))]) 
  (.seq 
  (.seq (.region [m 8 0, o 9 (.len 1 (.t 8)), o 10 (.bin .eql (.t 9) (.c (.i .i64 0)))]) (.cond (.t 10) 
  (.seq (.region [o 4 (.mv (.c .nilsl))]) .ret) .skip)) 
  (.seq (.region [m 11 0, o 12 (.len 1 (.t 11)), o 13 (.mkSlice (some 3) 48 [(.b false), (.s []), .nilsl] (.c (.i .i64 0)) (.t 12)), m 5 13]) 
  (.seq 
  (.seq (.region [m 14 0, o 15 (.len 1 (.t 14)), o 16 (.mv (.c (.i .i64 0)))]) (.block 0 (.loop 
  (.seq (.region [o 17 (.bin .lss (.t 16) (.t 15))]) 
  (.seq (.cond (.t 17) .skip (.exit 0)) 
  (.seq (.block 1 
  (.seq (.region [o 18 (.idxSl (some 3) (.t 14) (.t 16)), o 19 (.load (some 3) (.t 18)), o 7 (.alloc (.ag [(.b false), (.s []), .nilsl])), u (.store (some 3) (.t 7) (.t 19))]) (.region [m 20 5, m 21 1, o 22 (.load (some 3) (.t 7)), o 23 (.call (.val (.t 21)) [(.t 22)]), o 24 (.buildSlice (some 3) 1 [(.b false), (.s []), .nilsl] [(0, (.t 23))]), o 25 (.append (some 3) 48 (.t 20) (.t 24)), m 5 25]))) (.region [o 26 (.bin .add (.t 16) (.c (.i .i64 1))), m 16 26]))))))) 
  (.seq (.region [m 27 5, m 4 27]) .ret))))))⟩
def c220 : AFunc := ⟨2, 28, [(4, none)], (some 
  (.seq (.region [o 4 (.mv (.c .nilsl))]) 
  (.seq 
  (.seq (.region [m 8 0, o 9 (.len 1 (.t 8)), o 10 (.bin .eql (.t 9) (.c (.i .i64 0)))]) (.cond (.t 10) 
  (.seq (.region [o 4 (.mv (.c .nilsl))]) .ret) .skip)) 
  (.seq (.region [m 11 0, o 12 (.len 1 (.t 11)), o 13 (.mkSlice (some 4) 72 [(.i .u8 0), (.s []), .nilsl, .nilsl] (.c (.i .i64 0)) (.t 12)), m 5 13]) 
  (.seq 
  (.seq (.region [m 14 0, o 15 (.len 1 (.t 14)), o 16 (.mv (.c (.i .i64 0)))]) (.block 0 (.loop 
  (.seq (.region [o 17 (.bin .lss (.t 16) (.t 15))]) 
  (.seq (.cond (.t 17) .skip (.exit 0)) 
  (.seq (.block 1 
  (.seq (.region [o 18 (.idxSl (some 4) (.t 14) (.t 16)), o 19 (.load (some 4) (.t 18)), o 7 (.alloc (.ag [(.i .u8 0), (.s []), .nilsl, .nilsl])), u (.store (some 4) (.t 7) (.t 19))]) (.region [m 20 5, m 21 1, o 22 (.load (some 4) (.t 7)), o 23 (.call (.val (.t 21)) [(.t 22)]), o 24 (.buildSlice (some 4) 1 [(.i .u8 0), (.s []), .nilsl, .nilsl] [(0, (.t 23))]), o 25 (.append (some 4) 72 (.t 20) (.t 24)), m 5 25]))) (.region [o 26 (.bin .add (.t 16) (.c (.i .i64 1))), m 16 26]))))))) 
  (.seq (.region [m 27 5, m 4 27]) .ret))))))⟩
def c221 : AFunc := ⟨2, 14, [], (some 
  (.seq (.region [o 4 (.load none (.t 1)), o 5 (.rangeMap (.t 4))]) (.block 0 (.loop 
  (.seq (.region [o 6 (.nextMap (.t 5)), o 7 (.extract (.t 6) 0)]) 
  (.seq (.cond (.t 7) .skip (.exit 0)) (.block 1 
  (.seq (.region [o 8 (.entry (.t 5)), o 9 (.extract (.t 8) 0), m 3 9]) 
  (.seq (.region [m 10 0, m 11 3, o 12 (.call (.val (.t 10)) [(.t 11)]), o 13 (.not (.t 12))]) (.cond (.t 13) .ret .skip))))))))))⟩
def c222 : AFunc := ⟨1, 5, [(2, none)], (some (.seq (.region [o 2 (.mv (.c .nilsl))]) (.seq (.region [m 3 0, o 4 (.call (.fn 251) [(.c .nilsl), (.t 3)]), m 2 4]) .ret)))⟩
def c223 : AFunc := ⟨2, 14, [], (some 
  (.seq (.region [m 5 0, o 6 (.len 1 (.t 5)), m 4 6]) (.region [m 7 0, m 8 4, m 9 4, o 10 (.conv .u64 (.t 9)), o 11 (.call (.fn 110) [(.t 10)]), m 12 1, o 13 (.call (.fn 252) [(.t 7), (.c (.i .i64 0)), (.t 8), (.t 11), (.t 12)])])))⟩
def c224 : AFunc := ⟨2, 14, [], (some 
  (.seq (.region [o 4 (.load none (.t 1)), o 5 (.rangeMap (.t 4))]) (.block 0 (.loop 
  (.seq (.region [o 6 (.nextMap (.t 5)), o 7 (.extract (.t 6) 0)]) 
  (.seq (.cond (.t 7) .skip (.exit 0)) (.block 1 
  (.seq (.region [o 8 (.entry (.t 5)), o 9 (.extract (.t 8) 0), o 3 (.alloc (.ag [(.s []), (.i .i64 0)])), u (.store (some 2) (.t 3) (.t 9))]) 
  (.seq (.region [m 10 0, o 11 (.load (some 2) (.t 3)), o 12 (.call (.val (.t 10)) [(.t 11)]), o 13 (.not (.t 12))]) (.cond (.t 13) .ret .skip))))))))))⟩
def c225 : AFunc := ⟨2, 8, [(4, none)], (some (.seq (.region [o 4 (.mv (.c (.i .i64 0)))]) (.seq (.region [m 5 0, m 6 1, o 7 (.call (.fn 253) [(.t 5), (.t 6)]), m 4 7]) .ret)))⟩
def c227 : AFunc := ⟨2, 71, [], (some (.block 0 (.loop (.block 1 
  (.seq (.block 2 (.loop 
  (.seq 
  (.seq (.draw [o 5 (.load none (.t 1)), o 6 (.nilCheck (.t 5)), o 7 (.fieldAddr 0 (some 1) (.t 6)), o 8 (.fieldAddr 0 none (.t 7)), o 9 (.load none (.t 8)), o 10 (.load none (.t 1)), o 11 (.nilCheck (.t 10)), o 12 (.fieldAddr 1 none (.t 11)), o 13 (.load none (.t 12)), o 14 (.len 0 (.t 13)), o 15 (.bin .lss (.t 9) (.t 14)), m 16 15, ⟨(some 17), .load none (.t 1), (some (16, true)), []⟩, ⟨(some 18), .nilCheck (.t 17), (some (16, true)), []⟩, ⟨(some 19), .fieldAddr 1 none (.t 18), (some (16, true)), []⟩, ⟨(some 20), .load none (.t 19), (some (16, true)), []⟩, ⟨(some 21), .load none (.t 1), (some (16, true)), []⟩, ⟨(some 22), .nilCheck (.t 21), (some (16, true)), []⟩, ⟨(some 23), .fieldAddr 0 (some 1) (.t 22), (some (16, true)), []⟩, ⟨(some 24), .fieldAddr 0 none (.t 23), (some (16, true)), []⟩, ⟨(some 25), .load none (.t 24), (some (16, true)), []⟩, ⟨(some 26), .indexStr (.t 20) (.t 25), (some (16, true)), []⟩, ⟨(some 27), .call (.fn 228) [(.t 26)], (some (16, true)), []⟩, o 28 (.pick (.t 16) (.t 27) (.c (.b false)))]) (.cond (.t 28) .skip (.exit 2))) (.block 3 (.region [o 29 (.load none (.t 1)), o 30 (.nilCheck (.t 29)), o 31 (.fieldAddr 0 (some 1) (.t 30)), o 32 (.fieldAddr 0 none (.t 31)), o 33 (.load none (.t 32)), o 34 (.bin .add (.t 33) (.c (.i .i64 1))), o 35 (.nilCheck (.t 29)), o 36 (.fieldAddr 0 (some 1) (.t 35)), o 37 (.fieldAddr 0 none (.t 36)), u (.store none (.t 37) (.t 34))]))))) 
  (.seq 
  (.seq (.draw [o 38 (.load none (.t 1)), o 39 (.nilCheck (.t 38)), o 40 (.fieldAddr 0 (some 1) (.t 39)), o 41 (.fieldAddr 0 none (.t 40)), o 42 (.load none (.t 41)), o 43 (.load none (.t 1)), o 44 (.nilCheck (.t 43)), o 45 (.fieldAddr 1 none (.t 44)), o 46 (.load none (.t 45)), o 47 (.len 0 (.t 46)), o 48 (.bin .eql (.t 42) (.t 47))]) (.cond (.t 48) 
  (.seq (.region [m 49 0, o 50 (.load none (.t 1)), o 51 (.nilCheck (.t 50)), o 52 (.fieldAddr 0 (some 1) (.t 51)), o 53 (.fieldAddr 0 none (.t 52)), o 54 (.load none (.t 53)), o 55 (.build [(.i .u8 0), (.s []), (.i .i64 0)] [(0, 1, (.c (.i .u8 5))), (2, 1, (.t 54))]), o 56 (.call (.val (.t 49)) [(.t 55), (.c (.i .i64 0))])]) .ret) .skip)) 
  (.seq (.region [o 58 (.load none (.t 1)), o 59 (.call (.fn 229) [(.t 58)]), m 57 59, o 60 (.extract (.t 57) 0), o 61 (.extract (.t 57) 1), o 3 (.alloc (.ag [(.i .u8 0), (.s []), (.i .i64 0)])), u (.store (some 3) (.t 3) (.t 60)), m 4 61]) 
  (.seq (.region [m 62 0, o 63 (.load (some 3) (.t 3)), m 64 4, o 65 (.call (.val (.t 62)) [(.t 63), (.t 64)]), o 66 (.not (.t 65)), m 67 66, ⟨(some 68), .mv (.t 4), (some (67, false)), []⟩, ⟨(some 69), .bin .neq (.t 68) (.c (.i .i64 0)), (some (67, false)), []⟩, o 70 (.pick (.t 67) (.c (.b true)) (.t 69))]) (.cond (.t 70) .ret .skip)))))))))⟩
def c228 : AFunc := ⟨1, 17, [(2, none)], (some 
  (.seq (.region [o 2 (.mv (.c (.b false)))]) 
  (.seq (.region [m 3 0, o 4 (.bin .eql (.t 3) (.c (.i .u8 32))), m 5 4, ⟨(some 6), .mv (.t 0), (some (5, false)), []⟩, ⟨(some 7), .bin .eql (.t 6) (.c (.i .u8 9)), (some (5, false)), []⟩, o 8 (.pick (.t 5) (.c (.b true)) (.t 7)), m 9 8, ⟨(some 10), .mv (.t 0), (some (9, false)), []⟩, ⟨(some 11), .bin .eql (.t 10) (.c (.i .u8 10)), (some (9, false)), []⟩, o 12 (.pick (.t 9) (.c (.b true)) (.t 11)), m 13 12, ⟨(some 14), .mv (.t 0), (some (13, false)), []⟩, ⟨(some 15), .bin .eql (.t 14) (.c (.i .u8 13)), (some (13, false)), []⟩, o 16 (.pick (.t 13) (.c (.b true)) (.t 15)), m 2 16]) .ret)))⟩
def c229 : AFunc := ⟨1, 64, [(2, (some (some 3))), (3, none)], (some 
  (.seq (.region [o 2 (.alloc (.ag [(.i .u8 0), (.s []), (.i .i64 0)])), o 3 (.mv (.c (.i .i64 0)))]) 
  (.seq 
  (.seq (.region [m 10 0, o 11 (.call (.fn 254) [(.t 10)]), o 12 (.mv (.c (.i .i64 0)))]) (.block 0 (.loop 
  (.seq (.region [o 13 (.bin .lss (.t 12) (.c (.i .i64 3)))]) 
  (.seq (.cond (.t 13) .skip (.exit 0)) 
  (.seq (.block 1 
  (.seq (.region [o 14 (.indexAgg 3 (some 2) (.t 11) (.t 12)), o 5 (.alloc (.ag [.nf, .nf])), u (.store (some 2) (.t 5) (.t 14))]) 
  (.seq 
  (.seq (.draw [o 15 (.fieldAddr 0 none (.t 5)), o 16 (.load none (.t 15)), m 17 0, o 18 (.nilCheck (.t 17)), o 19 (.fieldAddr 1 none (.t 18)), o 20 (.load none (.t 19)), m 21 0, o 22 (.nilCheck (.t 21)), o 23 (.fieldAddr 0 (some 1) (.t 22)), o 24 (.fieldAddr 0 none (.t 23)), o 25 (.load none (.t 24)), o 26 (.indexStr (.t 20) (.t 25)), o 27 (.call (.val (.t 16)) [(.t 26)]), o 28 (.not (.t 27))]) (.cond (.t 28) (.exit 1) .skip)) 
  (.seq (.region [o 30 (.fieldAddr 1 none (.t 5)), o 31 (.load none (.t 30)), o 32 (.call (.val (.t 31)) []), m 29 32, o 33 (.extract (.t 29) 0), o 34 (.extract (.t 29) 1), o 35 (.extract (.t 29) 2), m 6 33, m 7 34, m 8 35]) 
  (.seq (.region [m 36 6, m 37 7, m 38 0, o 39 (.nilCheck (.t 38)), o 40 (.fieldAddr 0 (some 1) (.t 39)), o 41 (.fieldAddr 0 none (.t 40)), o 42 (.load none (.t 41)), o 43 (.build [(.i .u8 0), (.s []), (.i .i64 0)] [(0, 1, (.t 36)), (1, 1, (.t 37)), (2, 1, (.t 42))]), o 9 (.alloc (.ag [(.i .u8 0), (.s []), (.i .i64 0)])), u (.store (some 3) (.t 9) (.t 43))]) 
  (.seq (.region [m 44 0, o 45 (.nilCheck (.t 44)), o 46 (.fieldAddr 0 (some 1) (.t 45)), o 47 (.fieldAddr 0 none (.t 46)), o 48 (.load none (.t 47)), m 49 7, o 50 (.len 0 (.t 49)), o 51 (.bin .add (.t 48) (.t 50)), o 52 (.nilCheck (.t 44)), o 53 (.fieldAddr 0 (some 1) (.t 52)), o 54 (.fieldAddr 0 none (.t 53)), u (.store none (.t 54) (.t 51))]) 
  (.seq (.region [o 55 (.load (some 3) (.t 9)), m 56 8, u (.store (some 3) (.t 2) (.t 55)), m 3 56]) .ret))))))) (.region [o 57 (.bin .add (.t 12) (.c (.i .i64 1))), m 12 57]))))))) 
  (.seq (.region [m 58 0, o 59 (.nilCheck (.t 58)), o 60 (.fieldAddr 0 (some 1) (.t 59)), o 61 (.fieldAddr 0 none (.t 60)), o 62 (.load none (.t 61)), o 63 (.build [(.i .u8 0), (.s []), (.i .i64 0)] [(2, 1, (.t 62))]), u (.store (some 3) (.t 2) (.t 63)), o 3 (.mv (.c (.i .i64 40)))]) .ret))))⟩
def c230 : AFunc := ⟨1, 9, [], (some 
  (.seq (.region [m 2 0, o 3 (.nilCheck (.t 2)), o 4 (.fieldAddr 2 none (.t 3)), o 5 (.load none (.t 4)), o 6 (.bin .gtr (.t 5) (.c (.i .i64 120)))]) (.cond (.t 6) (.region [m 7 0, o 8 (.call (.fn 124) [(.t 7), (.c (.i .i64 51))])]) .skip)))⟩
def c231 : AFunc := ⟨0, 3, [(0, none)], (some 
  (.seq (.region [o 0 (.mv (.c (.m none)))]) 
  (.seq (.region [o 1 (.mkMap), u (.mapUpd (.inl 1) (.t 1) (.c (.s [126])) (.c (.i .u8 3))), u (.mapUpd (.inl 1) (.t 1) (.c (.s [91, 93])) (.c (.i .u8 10))), u (.mapUpd (.inl 1) (.t 1) (.c (.s [60, 62])) (.c (.i .u8 11))), u (.mapUpd (.inl 1) (.t 1) (.c (.s [110, 101, 120, 116])) (.c (.i .u8 12))), u (.mapUpd (.inl 1) (.t 1) (.c (.s [97, 108, 119, 97, 121, 115])) (.c (.i .u8 13))), u (.mapUpd (.inl 1) (.t 1) (.c (.s [97, 108, 108])) (.c (.i .u8 8))), u (.mapUpd (.inl 1) (.t 1) (.c (.s [115, 111, 109, 101])) (.c (.i .u8 9))), m 2 1, m 0 2]) .ret)))⟩
def c232 : AFunc := ⟨1, 46, [(2, (some (some 4)))], (some 
  (.seq (.region [o 2 (.alloc (.ag [(.i .u8 0), (.s []), .nilsl, .nilsl]))]) 
  (.seq 
  (.seq (.region [m 6 0, o 7 (.call (.fn 123) [(.t 6)]), o 3 (.alloc (.ag [(.i .u8 0), (.s []), (.i .i64 0)])), u (.store (some 3) (.t 3) (.t 7))]) (.block 0 
  (.seq (.region [m 9 0, o 10 (.call (.fn 184) [(.t 9), (.c (.s [40]))]), m 8 10]) (.cond (.t 8) 
  (.seq (.region [m 11 0, o 12 (.nilCheck (.t 11)), o 13 (.fieldAddr 2 none (.t 12)), o 14 (.load none (.t 13)), o 15 (.bin .add (.t 14) (.c (.i .i64 1))), o 16 (.nilCheck (.t 11)), o 17 (.fieldAddr 2 none (.t 16)), u (.store none (.t 17) (.t 15))]) 
  (.seq (.region [m 18 0, o 19 (.call (.fn 88) [(.t 18)]), o 4 (.alloc (.ag [(.i .u8 0), (.s []), .nilsl, .nilsl])), u (.store (some 4) (.t 4) (.t 19))]) 
  (.seq (.region [m 20 0, o 21 (.nilCheck (.t 20)), o 22 (.fieldAddr 2 none (.t 21)), o 23 (.load none (.t 22)), o 24 (.bin .sub (.t 23) (.c (.i .i64 1))), o 25 (.nilCheck (.t 20)), o 26 (.fieldAddr 2 none (.t 25)), u (.store none (.t 26) (.t 24))]) 
  (.seq (.region [m 27 0, o 28 (.call (.fn 255) [(.t 27), (.c (.s [41]))])]) 
  (.seq (.region [o 29 (.load (some 4) (.t 4)), u (.store (some 4) (.t 2) (.t 29))]) .ret))))) 
  (.seq (.region [m 31 0, o 32 (.call (.fn 184) [(.t 31), (.c (.s [102, 97, 108, 115, 101]))]), m 30 32]) (.cond (.t 30) 
  (.seq (.region [o 33 (.build [(.i .u8 0), (.s []), .nilsl, .nilsl] [(0, 1, (.c (.i .u8 2)))]), u (.store (some 4) (.t 2) (.t 33))]) .ret) 
  (.seq (.region [o 35 (.fieldAddr 0 none (.t 3)), o 36 (.load none (.t 35)), o 37 (.bin .eql (.t 36) (.c (.i .u8 2))), m 34 37]) (.cond (.t 34) 
  (.seq (.region [m 38 0, o 39 (.call (.fn 256) [(.t 38)]), u (.store (some 4) (.t 2) (.t 39))]) .ret) .skip)))))))) 
  (.seq (.region [m 40 0, o 41 (.call (.fn 233) [(.t 40), (.c (.i .u8 1)), (.c (.f (.func 73) [] []))]), m 5 41]) 
  (.seq (.region [m 42 5, m 43 0, o 44 (.call (.fn 257) [(.t 43)]), o 45 (.build [(.i .u8 0), (.s []), .nilsl, .nilsl] [(0, 1, (.c (.i .u8 1))), (1, 1, (.t 42)), (2, 1, (.t 44))]), u (.store (some 4) (.t 2) (.t 45))]) .ret)))))⟩
def c233 : AFunc := ⟨3, 32, [(6, none)], (some 
  (.seq (.region [o 6 (.mv (.c (.s [])))]) 
  (.seq (.region [m 8 0, o 9 (.call (.fn 123) [(.t 8)]), o 7 (.alloc (.ag [(.i .u8 0), (.s []), (.i .i64 0)])), u (.store (some 3) (.t 7) (.t 9))]) 
  (.seq 
  (.seq (.region [o 10 (.fieldAddr 0 none (.t 7)), o 11 (.load none (.t 10)), m 12 1, o 13 (.bin .neq (.t 11) (.t 12)), m 14 13, ⟨(some 15), .mv (.t 2), (some (14, false)), []⟩, ⟨(some 16), .fieldAddr 1 none (.t 7), (some (14, false)), []⟩, ⟨(some 17), .load none (.t 16), (some (14, false)), []⟩, ⟨(some 18), .call (.val (.t 15)) [(.t 17)], (some (14, false)), []⟩, ⟨(some 19), .not (.t 18), (some (14, false)), []⟩, o 20 (.pick (.t 14) (.c (.b true)) (.t 19))]) (.cond (.t 20) (.region [m 21 0, o 22 (.call (.fn 124) [(.t 21), (.c (.i .i64 50))])]) .skip)) 
  (.seq (.region [m 23 0, o 24 (.nilCheck (.t 23)), o 25 (.fieldAddr 1 none (.t 24)), o 26 (.load none (.t 25)), o 27 (.bin .add (.t 26) (.c (.i .i64 1))), o 28 (.nilCheck (.t 23)), o 29 (.fieldAddr 1 none (.t 28)), u (.store none (.t 29) (.t 27))]) 
  (.seq (.region [o 30 (.fieldAddr 1 none (.t 7)), o 31 (.load none (.t 30)), m 6 31]) .ret))))))⟩
def c251 : AFunc := ⟨2, 13, [(4, none)], (some 
  (.seq (.region [o 2 (.box (.t 0)), o 4 (.mv (.c .nilsl))]) 
  (.seq 
  (.seq (.region [m 6 1]) (.block 0 (.rangeFunc (.t 6) [7] (.region [o 5 (.alloc (.ag [(.s []), (.i .i64 0)])), u (.store (some 2) (.t 5) (.t 7))]) (.block 1 (.region [o 8 (.load none (.t 2)), o 9 (.load (some 2) (.t 5)), o 10 (.buildSlice (some 2) 1 [(.s []), (.i .i64 0)] [(0, (.t 9))]), o 11 (.append (some 2) 24 (.t 8) (.t 10)), u (.store none (.t 2) (.t 11))]))))) 
  (.seq (.region [o 12 (.load none (.t 2)), m 4 12]) .ret))))⟩
def c252 : AFunc := ⟨5, 148, [], (some 
  (.seq (.region [o 10 (.mv (.c (.b true)))]) 
  (.seq (.region [o 11 (.mv (.c (.b true)))]) (.block 0 (.loop (.block 1 
  (.seq (.region [m 21 2, m 22 1, o 23 (.bin .sub (.t 21) (.t 22)), m 12 23]) 
  (.seq 
  (.seq (.region [m 24 12, o 25 (.bin .leq (.t 24) (.c (.i .i64 12)))]) (.cond (.t 25) 
  (.seq (.region [m 26 0, m 27 1, m 28 2, m 29 4, o 30 (.call (.fn 267) [(.t 26), (.t 27), (.t 28), (.t 29)])]) .ret) .skip)) 
  (.seq 
  (.seq (.region [m 31 3, o 32 (.bin .eql (.t 31) (.c (.i .i64 0)))]) (.cond (.t 32) 
  (.seq (.region [m 33 0, m 34 1, m 35 2, m 36 4, o 37 (.call (.fn 268) [(.t 33), (.t 34), (.t 35), (.t 36)])]) .ret) .skip)) 
  (.seq 
  (.seq (.region [m 38 10, o 39 (.not (.t 38))]) (.cond (.t 39) 
  (.seq (.region [m 40 0, m 41 1, m 42 2, m 43 4, o 44 (.call (.fn 269) [(.t 40), (.t 41), (.t 42), (.t 43)])]) (.region [m 45 3, o 46 (.bin .sub (.t 45) (.c (.i .i64 1))), m 3 46])) .skip)) 
  (.seq (.region [m 48 0, m 49 1, m 50 2, m 51 4, o 52 (.call (.fn 270) [(.t 48), (.t 49), (.t 50), (.t 51)]), m 47 52, o 53 (.extract (.t 47) 0), o 54 (.extract (.t 47) 1), m 13 53, m 14 54]) 
  (.seq 
  (.seq (.region [m 55 14, o 56 (.bin .eql (.t 55) (.c (.i .i64 2)))]) (.cond (.t 56) 
  (.seq (.region [m 57 0, m 58 1, m 59 2, m 60 4, o 61 (.call (.fn 271) [(.t 57), (.t 58), (.t 59), (.t 60)])]) 
  (.seq (.region [m 62 2, o 63 (.bin .sub (.t 62) (.c (.i .i64 1))), m 64 13, m 65 1, o 66 (.bin .sub (.t 64) (.t 65)), o 67 (.bin .sub (.t 63) (.t 66)), m 13 67]) (.region [o 14 (.mv (.c (.i .i64 1)))]))) .skip)) 
  (.seq 
  (.seq (.region [m 68 10, m 69 68, ⟨(some 70), .mv (.t 11), (some (69, true)), []⟩, o 71 (.pick (.t 69) (.t 70) (.c (.b false))), m 72 71, ⟨(some 73), .mv (.t 14), (some (72, true)), []⟩, ⟨(some 74), .bin .eql (.t 73) (.c (.i .i64 1)), (some (72, true)), []⟩, o 75 (.pick (.t 72) (.t 74) (.c (.b false)))]) (.cond (.t 75) 
  (.seq (.region [m 76 0, m 77 1, m 78 2, m 79 4, o 80 (.call (.fn 272) [(.t 76), (.t 77), (.t 78), (.t 79)])]) (.cond (.t 80) .ret .skip)) .skip)) 
  (.seq 
  (.seq (.draw [m 81 1, o 82 (.bin .gtr (.t 81) (.c (.i .i64 0))), m 83 82, ⟨(some 84), .mv (.t 4), (some (83, true)), []⟩, ⟨(some 85), .mv (.t 0), (some (83, true)), []⟩, ⟨(some 86), .mv (.t 1), (some (83, true)), []⟩, ⟨(some 87), .bin .sub (.t 86) (.c (.i .i64 1)), (some (83, true)), []⟩, ⟨(some 88), .idxSl (some 2) (.t 85) (.t 87), (some (83, true)), []⟩, ⟨(some 89), .load (some 2) (.t 88), (some (83, true)), []⟩, ⟨(some 90), .mv (.t 0), (some (83, true)), []⟩, ⟨(some 91), .mv (.t 13), (some (83, true)), []⟩, ⟨(some 92), .idxSl (some 2) (.t 90) (.t 91), (some (83, true)), []⟩, ⟨(some 93), .load (some 2) (.t 92), (some (83, true)), []⟩, ⟨(some 94), .call (.val (.t 84)) [(.t 89), (.t 93)], (some (83, true)), []⟩, ⟨(some 95), .bin .lss (.t 94) (.c (.i .i64 0)), (some (83, true)), []⟩, ⟨(some 96), .not (.t 95), (some (83, true)), []⟩, o 97 (.pick (.t 83) (.t 96) (.c (.b false)))]) (.cond (.t 97) 
  (.seq (.region [m 98 0, m 99 1, m 100 2, m 101 13, m 102 4, o 103 (.call (.fn 273) [(.t 98), (.t 99), (.t 100), (.t 101), (.t 102)]), m 15 103]) 
  (.seq (.region [m 104 15, m 1 104]) (.exit 1))) .skip)) 
  (.seq (.region [m 106 0, m 107 1, m 108 2, m 109 13, m 110 4, o 111 (.call (.fn 274) [(.t 106), (.t 107), (.t 108), (.t 109), (.t 110)]), m 105 111, o 112 (.extract (.t 105) 0), o 113 (.extract (.t 105) 1), m 16 112, m 17 113]) 
  (.seq (.region [m 114 17, m 11 114]) 
  (.seq (.region [m 115 16, m 116 1, o 117 (.bin .sub (.t 115) (.t 116)), m 118 2, m 119 16, o 120 (.bin .sub (.t 118) (.t 119)), m 18 117, m 19 120]) 
  (.seq (.region [m 121 12, o 122 (.bin .quo (.t 121) (.c (.i .i64 8))), m 20 122]) 
  (.seq (.region [m 123 18, m 124 19, o 125 (.bin .lss (.t 123) (.t 124))]) (.cond (.t 125) 
  (.seq (.region [m 126 18, m 127 20, o 128 (.bin .geq (.t 126) (.t 127)), m 10 128]) 
  (.seq (.region [m 129 0, m 130 1, m 131 16, m 132 3, m 133 4, o 134 (.call (.fn 252) [(.t 129), (.t 130), (.t 131), (.t 132), (.t 133)])]) (.region [m 135 16, o 136 (.bin .add (.t 135) (.c (.i .i64 1))), m 1 136]))) 
  (.seq (.region [m 137 19, m 138 20, o 139 (.bin .geq (.t 137) (.t 138)), m 10 139]) 
  (.seq (.region [m 140 0, m 141 16, o 142 (.bin .add (.t 141) (.c (.i .i64 1))), m 143 2, m 144 3, m 145 4, o 146 (.call (.fn 252) [(.t 140), (.t 142), (.t 143), (.t 144), (.t 145)])]) (.region [m 147 16, m 2 147])))))))))))))))))))))))⟩
def c254 : AFunc := ⟨1, 13, [(2, (some (some 6)))], (some 
  (.seq (.region [o 2 (.alloc (.ag [.nf, .nf, .nf, .nf, .nf, .nf]))]) 
  (.seq (.region [m 3 0, o 4 (.mkFunc (.func 276) [(.t 3)] []), o 5 (.build [.nf, .nf] [(0, 1, (.c (.f (.func 275) [] []))), (1, 1, (.t 4))]), m 6 0, o 7 (.mkFunc (.func 278) [(.t 6)] []), o 8 (.build [.nf, .nf] [(0, 1, (.c (.f (.func 277) [] []))), (1, 1, (.t 7))]), m 9 0, o 10 (.mkFunc (.func 280) [(.t 9)] []), o 11 (.build [.nf, .nf] [(0, 1, (.c (.f (.func 279) [] []))), (1, 1, (.t 10))]), o 12 (.build [.nf, .nf, .nf, .nf, .nf, .nf] [(0, 2, (.t 5)), (2, 2, (.t 8)), (4, 2, (.t 11))]), u (.store (some 6) (.t 2) (.t 12))]) .ret)))⟩
def c255 : AFunc := ⟨2, 10, [], (some (.seq (.region [m 4 0, m 5 1, o 6 (.call (.fn 184) [(.t 4), (.t 5)]), o 7 (.not (.t 6))]) (.cond (.t 7) (.region [m 8 0, o 9 (.call (.fn 124) [(.t 8), (.c (.i .i64 50))])]) .skip)))⟩
def c256 : AFunc := ⟨1, 31, [(2, (some (some 4)))], (some 
  (.seq (.region [o 2 (.alloc (.ag [(.i .u8 0), (.s []), .nilsl, .nilsl]))]) 
  (.seq (.region [m 6 0, m 7 0, o 8 (.mkFunc (.func 281) [(.t 7)] []), o 9 (.call (.fn 233) [(.t 6), (.c (.i .u8 2)), (.t 8)]), o 10 (.build [(.i .u8 0), (.s []), .nilsl, .nilsl] [(0, 1, (.c (.i .u8 15))), (1, 1, (.t 9))]), o 3 (.alloc (.ag [(.i .u8 0), (.s []), .nilsl, .nilsl])), u (.store (some 4) (.t 3) (.t 10))]) 
  (.seq 
  (.seq (.region [m 11 0, o 12 (.call (.fn 184) [(.t 11), (.c (.s [91]))])]) (.cond (.t 12) 
  (.seq (.region [m 13 0, m 14 0, o 15 (.mkFunc (.func 283) [(.t 14)] []), o 16 (.call (.fn 233) [(.t 13), (.c (.i .u8 2)), (.t 15)]), o 17 (.call (.fn 282) [(.t 16)]), o 4 (.alloc (.ag [(.b false), (.s []), .nilsl])), u (.store (some 3) (.t 4) (.t 17))]) 
  (.seq (.region [m 18 0, o 19 (.call (.fn 255) [(.t 18), (.c (.s [47]))])]) 
  (.seq (.region [m 20 0, o 21 (.call (.fn 233) [(.t 20), (.c (.i .u8 1)), (.c (.f (.func 134) [] []))]), o 22 (.call (.fn 282) [(.t 21)]), o 5 (.alloc (.ag [(.b false), (.s []), .nilsl])), u (.store (some 3) (.t 5) (.t 22))]) 
  (.seq (.region [m 23 0, o 24 (.call (.fn 255) [(.t 23), (.c (.s [93]))])]) (.draw [⟨(some 25), .load (some 3) (.t 5), none, [4, 6]⟩, ⟨(some 26), .load (some 3) (.t 4), none, [4, 6]⟩, o 27 (.buildSlice (some 3) 2 [(.b false), (.s []), .nilsl] [(0, (.t 25)), (1, (.t 26))]), o 28 (.fieldAddr 0 none (.t 3)), u (.store none (.t 28) (.c (.i .u8 16))), o 29 (.fieldAddr 2 none (.t 3)), u (.store none (.t 29) (.t 27))]))))) .skip)) 
  (.seq (.region [o 30 (.load (some 4) (.t 3)), u (.store (some 4) (.t 2) (.t 30))]) .ret)))))⟩
def c267 : AFunc := ⟨4, 53, [], (some 
  (.seq (.region [m 10 1, o 11 (.bin .add (.t 10) (.c (.i .i64 1))), m 8 11]) (.block 0 (.loop 
  (.seq 
  (.seq (.region [m 12 8, m 13 2, o 14 (.bin .lss (.t 12) (.t 13))]) (.cond (.t 14) .skip (.exit 0))) 
  (.seq (.block 1 
  (.seq (.region [m 17 8, m 9 17]) (.block 2 (.loop 
  (.seq 
  (.seq (.draw [m 18 9, m 19 1, o 20 (.bin .gtr (.t 18) (.t 19)), m 21 20, ⟨(some 22), .mv (.t 3), (some (21, true)), []⟩, ⟨(some 23), .mv (.t 0), (some (21, true)), []⟩, ⟨(some 24), .mv (.t 9), (some (21, true)), []⟩, ⟨(some 25), .idxSl (some 2) (.t 23) (.t 24), (some (21, true)), []⟩, ⟨(some 26), .load (some 2) (.t 25), (some (21, true)), []⟩, ⟨(some 27), .mv (.t 0), (some (21, true)), []⟩, ⟨(some 28), .mv (.t 9), (some (21, true)), []⟩, ⟨(some 29), .bin .sub (.t 28) (.c (.i .i64 1)), (some (21, true)), []⟩, ⟨(some 30), .idxSl (some 2) (.t 27) (.t 29), (some (21, true)), []⟩, ⟨(some 31), .load (some 2) (.t 30), (some (21, true)), []⟩, ⟨(some 32), .call (.val (.t 22)) [(.t 26), (.t 31)], (some (21, true)), []⟩, ⟨(some 33), .bin .lss (.t 32) (.c (.i .i64 0)), (some (21, true)), []⟩, o 34 (.pick (.t 21) (.t 33) (.c (.b false)))]) (.cond (.t 34) .skip (.exit 2))) 
  (.seq (.block 3 (.draw [m 37 0, m 38 9, m 39 0, m 40 9, o 41 (.bin .sub (.t 40) (.c (.i .i64 1))), m 42 0, m 43 9, o 44 (.bin .sub (.t 43) (.c (.i .i64 1))), o 45 (.idxSl (some 2) (.t 42) (.t 44)), o 46 (.load (some 2) (.t 45)), m 47 0, m 48 9, o 49 (.idxSl (some 2) (.t 47) (.t 48)), o 50 (.load (some 2) (.t 49)), o 51 (.idxSl (some 2) (.t 37) (.t 38)), u (.store (some 2) (.t 51) (.t 46)), o 52 (.idxSl (some 2) (.t 39) (.t 41)), u (.store (some 2) (.t 52) (.t 50))])) (.region [m 35 9, o 36 (.bin .sub (.t 35) (.c (.i .i64 1))), m 9 36]))))))) (.region [m 15 8, o 16 (.bin .add (.t 15) (.c (.i .i64 1))), m 8 16])))))))⟩
def c275 : AFunc := ⟨1, 17, [(2, none)], (some 
  (.seq (.region [o 2 (.mv (.c (.b false)))]) 
  (.seq (.region [m 3 0, o 4 (.bin .geq (.t 3) (.c (.i .u8 97))), m 5 4, ⟨(some 6), .mv (.t 0), (some (5, true)), []⟩, ⟨(some 7), .bin .leq (.t 6) (.c (.i .u8 122)), (some (5, true)), []⟩, o 8 (.pick (.t 5) (.t 7) (.c (.b false))), m 9 8, ⟨(some 10), .mv (.t 0), (some (9, false)), []⟩, ⟨(some 11), .bin .geq (.t 10) (.c (.i .u8 65)), (some (9, false)), []⟩, ⟨(some 12), .mv (.t 11), (some (9, false)), []⟩, ⟨(some 13), .mv (.t 0), (some (12, true)), []⟩, ⟨(some 14), .bin .leq (.t 13) (.c (.i .u8 90)), (some (12, true)), []⟩, ⟨(some 15), .pick (.t 12) (.t 14) (.c (.b false)), (some (9, false)), []⟩, o 16 (.pick (.t 9) (.c (.b true)) (.t 15)), m 2 16]) .ret)))⟩
def c276 : AFunc := ⟨1, 24, [(2, none), (3, none), (4, none)], (some 
  (.seq (.region [o 2 (.mv (.c (.i .u8 0))), o 3 (.mv (.c (.s []))), o 4 (.mv (.c (.i .i64 0)))]) 
  (.seq (.region [m 6 0, o 7 (.call (.fn 294) [(.t 6), (.c (.i .i64 1))]), m 5 7]) 
  (.seq (.block 0 
  (.seq (.region [m 9 5, o 10 (.call (.fn 295) [(.t 9)]), m 8 10]) (.cond (.t 8) 
  (.seq (.region [m 11 5, o 2 (.mv (.c (.i .u8 3))), m 3 11, o 4 (.mv (.c (.i .i64 0)))]) .ret) 
  (.seq (.region [m 13 5, o 14 (.call (.fn 134) [(.t 13)]), m 15 14, ⟨(some 16), .mv (.t 5), (some (15, false)), []⟩, ⟨(some 17), .call (.fn 142) [(.t 16)], (some (15, false)), []⟩, o 18 (.pick (.t 15) (.c (.b true)) (.t 17)), m 19 18, ⟨(some 20), .mv (.t 5), (some (19, false)), []⟩, ⟨(some 21), .call (.fn 73) [(.t 20)], (some (19, false)), []⟩, o 22 (.pick (.t 19) (.c (.b true)) (.t 21)), m 12 22]) (.cond (.t 12) 
  (.seq (.region [m 23 5, o 2 (.mv (.c (.i .u8 1))), m 3 23, o 4 (.mv (.c (.i .i64 0)))]) .ret) .skip))))) 
  (.seq (.region [o 2 (.mv (.c (.i .u8 0))), o 3 (.mv (.c (.s []))), o 4 (.mv (.c (.i .i64 41)))]) .ret)))))⟩
def c277 : AFunc := ⟨1, 5, [(2, none)], (some (.seq (.region [o 2 (.mv (.c (.b false)))]) (.seq (.region [m 3 0, o 4 (.bin .eql (.t 3) (.c (.i .u8 63))), m 2 4]) .ret)))⟩
def c278 : AFunc := ⟨1, 12, [(2, none), (3, none), (4, none)], (some 
  (.seq (.region [o 2 (.mv (.c (.i .u8 0))), o 3 (.mv (.c (.s []))), o 4 (.mv (.c (.i .i64 0)))]) 
  (.seq (.region [m 6 0, o 7 (.call (.fn 294) [(.t 6), (.c (.i .i64 1))]), m 5 7]) 
  (.seq 
  (.seq (.region [m 8 5, o 9 (.call (.fn 75) [(.t 8)]), o 10 (.not (.t 9))]) (.cond (.t 10) 
  (.seq (.region [o 2 (.mv (.c (.i .u8 0))), o 3 (.mv (.c (.s []))), o 4 (.mv (.c (.i .i64 41)))]) .ret) .skip)) 
  (.seq (.region [m 11 5, o 2 (.mv (.c (.i .u8 2))), m 3 11, o 4 (.mv (.c (.i .i64 0)))]) .ret)))))⟩
def c279 : AFunc := ⟨1, 3, [(2, none)], (some (.seq (.region [o 2 (.mv (.c (.b false)))]) (.seq (.region [o 2 (.mv (.c (.b true)))]) .ret)))⟩
def c280 : AFunc := ⟨1, 25, [(2, none), (3, none), (4, none)], (some 
  (.seq (.region [o 2 (.mv (.c (.i .u8 0))), o 3 (.mv (.c (.s []))), o 4 (.mv (.c (.i .i64 0)))]) 
  (.seq 
  (.seq (.region [o 7 (.load (some 13) (.g 7)), o 8 (.mv (.c (.i .i64 0)))]) (.block 0 (.loop 
  (.seq (.region [o 9 (.bin .lss (.t 8) (.c (.i .i64 13)))]) 
  (.seq (.cond (.t 9) .skip (.exit 0)) 
  (.seq (.block 1 
  (.seq (.region [o 10 (.indexAgg 13 none (.t 7) (.t 8)), m 6 10]) 
  (.seq (.draw [m 11 0, o 12 (.nilCheck (.t 11)), o 13 (.fieldAddr 1 none (.t 12)), o 14 (.load none (.t 13)), m 15 0, o 16 (.nilCheck (.t 15)), o 17 (.fieldAddr 0 (some 1) (.t 16)), o 18 (.fieldAddr 0 none (.t 17)), o 19 (.load none (.t 18)), o 20 (.sliceStr (.t 14) (some (.t 19)) none), m 21 6, o 22 (.call (.fn 141) [(.t 20), (.t 21)])]) (.cond (.t 22) 
  (.seq (.region [m 23 6, o 2 (.mv (.c (.i .u8 4))), m 3 23, o 4 (.mv (.c (.i .i64 0)))]) .ret) .skip)))) (.region [o 24 (.bin .add (.t 8) (.c (.i .i64 1))), m 8 24]))))))) 
  (.seq (.region [o 2 (.mv (.c (.i .u8 0))), o 3 (.mv (.c (.s []))), o 4 (.mv (.c (.i .i64 40)))]) .ret))))⟩
def c281 : AFunc := ⟨2, 14, [(4, none)], (some 
  (.seq (.region [o 4 (.mv (.c (.b false)))]) 
  (.seq (.region [m 5 0, o 6 (.nilCheck (.t 5)), o 7 (.fieldAddr 3 none (.t 6)), o 8 (.load none (.t 7)), m 9 8, ⟨(some 10), .mv (.t 1), (some (9, true)), []⟩, ⟨(some 11), .sliceStr (.t 10) (some (.c (.i .i64 1))) none, (some (9, true)), []⟩, ⟨(some 12), .call (.fn 73) [(.t 11)], (some (9, true)), []⟩, o 13 (.pick (.t 9) (.t 12) (.c (.b false))), m 4 13]) .ret)))⟩
def c282 : AFunc := ⟨1, 5, [(2, (some (some 3)))], (some 
  (.seq (.region [o 2 (.alloc (.ag [(.b false), (.s []), .nilsl]))]) 
  (.seq (.region [m 3 0, o 4 (.build [(.b false), (.s []), .nilsl] [(0, 1, (.c (.b true))), (1, 1, (.t 3))]), u (.store (some 3) (.t 2) (.t 4))]) .ret)))⟩
def c283 : AFunc := ⟨2, 14, [(4, none)], (some 
  (.seq (.region [o 4 (.mv (.c (.b false)))]) 
  (.seq (.region [m 5 0, o 6 (.nilCheck (.t 5)), o 7 (.fieldAddr 3 none (.t 6)), o 8 (.load none (.t 7)), m 9 8, ⟨(some 10), .mv (.t 1), (some (9, true)), []⟩, ⟨(some 11), .sliceStr (.t 10) (some (.c (.i .i64 1))) none, (some (9, true)), []⟩, ⟨(some 12), .call (.fn 142) [(.t 11)], (some (9, true)), []⟩, o 13 (.pick (.t 9) (.t 12) (.c (.b false))), m 4 13]) .ret)))⟩
def c294 : AFunc := ⟨2, 42, [(4, none)], (some 
  (.seq (.region [o 4 (.mv (.c (.s [])))]) 
  (.seq (.region [m 6 0, o 7 (.nilCheck (.t 6)), o 8 (.fieldAddr 0 (some 1) (.t 7)), o 9 (.fieldAddr 0 none (.t 8)), o 10 (.load none (.t 9)), m 11 1, o 12 (.bin .add (.t 10) (.t 11)), m 5 12]) 
  (.seq (.block 0 (.loop 
  (.seq 
  (.seq (.region [m 13 5, m 14 0, o 15 (.nilCheck (.t 14)), o 16 (.fieldAddr 1 none (.t 15)), o 17 (.load none (.t 16)), o 18 (.len 0 (.t 17)), o 19 (.bin .lss (.t 13) (.t 18)), m 20 19, ⟨(some 21), .mv (.t 0), (some (20, true)), []⟩, ⟨(some 22), .nilCheck (.t 21), (some (20, true)), []⟩, ⟨(some 23), .fieldAddr 1 none (.t 22), (some (20, true)), []⟩, ⟨(some 24), .load none (.t 23), (some (20, true)), []⟩, ⟨(some 25), .mv (.t 5), (some (20, true)), []⟩, ⟨(some 26), .indexStr (.t 24) (.t 25), (some (20, true)), []⟩, ⟨(some 27), .call (.fn 298) [(.t 26)], (some (20, true)), []⟩, o 28 (.pick (.t 20) (.t 27) (.c (.b false)))]) (.cond (.t 28) .skip (.exit 0))) (.block 1 (.region [m 29 5, o 30 (.bin .add (.t 29) (.c (.i .i64 1))), m 5 30]))))) 
  (.seq (.draw [m 31 0, o 32 (.nilCheck (.t 31)), o 33 (.fieldAddr 1 none (.t 32)), o 34 (.load none (.t 33)), m 35 0, o 36 (.nilCheck (.t 35)), o 37 (.fieldAddr 0 (some 1) (.t 36)), o 38 (.fieldAddr 0 none (.t 37)), o 39 (.load none (.t 38)), m 40 5, o 41 (.sliceStr (.t 34) (some (.t 39)) (some (.t 40))), m 4 41]) .ret)))))⟩
def c295 : AFunc := ⟨1, 11, [(2, none)], (some 
  (.seq (.region [o 2 (.mv (.c (.b false)))]) 
  (.seq 
  (.seq (.region [m 3 0]) (.block 0 
  (.seq 
  (.seq (.region [o 5 (.bin .eql (.t 3) (.c (.s [97, 108, 108]))), m 4 5]) (.cond (.t 4) .skip 
  (.seq (.region [o 6 (.bin .eql (.t 3) (.c (.s [115, 111, 109, 101]))), m 4 6]) (.cond (.t 4) .skip 
  (.seq (.region [o 7 (.bin .eql (.t 3) (.c (.s [102, 97, 108, 115, 101]))), m 4 7]) (.cond (.t 4) .skip 
  (.seq (.region [o 8 (.bin .eql (.t 3) (.c (.s [110, 101, 120, 116]))), m 4 8]) (.cond (.t 4) .skip 
  (.seq (.region [o 9 (.bin .eql (.t 3) (.c (.s [97, 108, 119, 97, 121, 115]))), m 4 9]) (.cond (.t 4) .skip (.region [o 10 (.bin .eql (.t 3) (.c (.s [117, 110, 116, 105, 108]))), m 4 10]))))))))))) (.cond (.t 4) 
  (.seq (.region [o 2 (.mv (.c (.b true)))]) .ret) .skip)))) 
  (.seq (.region [o 2 (.mv (.c (.b false)))]) .ret))))⟩
def c298 : AFunc := ⟨1, 13, [(2, none)], (some 
  (.seq (.region [o 2 (.mv (.c (.b false)))]) 
  (.seq (.region [m 3 0, o 4 (.call (.fn 275) [(.t 3)]), m 5 4, ⟨(some 6), .mv (.t 0), (some (5, false)), []⟩, ⟨(some 7), .bin .geq (.t 6) (.c (.i .u8 48)), (some (5, false)), []⟩, ⟨(some 8), .mv (.t 7), (some (5, false)), []⟩, ⟨(some 9), .mv (.t 0), (some (8, true)), []⟩, ⟨(some 10), .bin .leq (.t 9) (.c (.i .u8 57)), (some (8, true)), []⟩, ⟨(some 11), .pick (.t 8) (.t 10) (.c (.b false)), (some (5, false)), []⟩, o 12 (.pick (.t 5) (.c (.b true)) (.t 11)), m 2 12]) .ret)))⟩
end Go.Lyc.T
