/-
  The code of functions of the program, as the abstract executor reads it. No conditions: definitions and closed facts.
-/
import Derived.Test.YtnbkckejpekkaaaGreatDoorFng9
noncomputable section
namespace Go.Lyc.T
open Go.Lyc
set_option maxRecDepth 100000
def c5 : AFunc := ⟨2, 128, [(4, none)], (some 
  (.seq (.region [⟨(some 4), .mv (.c (.b false)), none, []⟩]) 
  (.seq (.region [⟨(some 20), .mv (.t 0), none, []⟩, ⟨(some 21), .call (.fn 17) [(.t 20)], none, []⟩, ⟨(some 19), .mv (.t 21), none, []⟩, ⟨(some 22), .extract (.t 19) 0, none, []⟩, ⟨(some 23), .extract (.t 19) 1, none, []⟩, ⟨(some 5), .alloc (.ag [(.s []), (.i .u32 0), (.i .u8 0), (.i .u8 0), .nilsl]), none, []⟩, ⟨none, .store (some 5) (.t 5) (.t 22), none, []⟩, ⟨(some 6), .mv (.t 23), none, []⟩]) 
  (.seq 
  (.seq (.region [⟨(some 24), .mv (.t 6), none, []⟩, ⟨(some 25), .not (.t 24), none, []⟩]) (.cond (.t 25) 
  (.seq (.region [⟨(some 4), .mv (.c (.b false)), none, []⟩]) .ret) .skip)) 
  (.seq (.region [⟨(some 26), .mkMap, none, []⟩, ⟨(some 7), .mv (.t 26), none, []⟩]) 
  (.seq 
  (.seq (.region [⟨(some 27), .fieldAddr 4 none (.t 5), none, []⟩, ⟨(some 28), .load none (.t 27), none, []⟩, ⟨(some 29), .len 1 (.t 28), none, []⟩, ⟨(some 30), .mv (.c (.i .i64 0)), none, []⟩]) (.block 0 (.loop 
  (.seq (.region [⟨(some 31), .bin .lss (.t 30) (.t 29), none, []⟩]) 
  (.seq (.cond (.t 31) .skip (.exit 0)) 
  (.seq (.block 1 
  (.seq (.region [⟨(some 32), .mv (.t 30), none, []⟩, ⟨(some 33), .idxSl (some 6) (.t 28) (.t 30), none, []⟩, ⟨(some 34), .load (some 6) (.t 33), none, []⟩, ⟨(some 9), .alloc (.ag [(.s []), .nilsl, (.i .u8 0), (.s []), .nilsl, .nilsl]), none, []⟩, ⟨(some 8), .mv (.t 32), none, []⟩, ⟨none, .store (some 6) (.t 9) (.t 34), none, []⟩]) 
  (.seq 
  (.seq (.region [⟨(some 35), .mv (.t 7), none, []⟩, ⟨(some 36), .fieldAddr 0 none (.t 9), none, []⟩, ⟨(some 37), .load none (.t 36), none, []⟩, ⟨(some 38), .lookup (.inl 1) (.t 35) (.t 37) (.i .i64 0) false, none, []⟩, ⟨(some 39), .bin .add (.t 38) (.c (.i .i64 1)), none, []⟩, ⟨none, .mapUpd (.inl 1) (.t 35) (.t 37) (.t 39), none, []⟩]) 
  (.seq (.region [⟨(some 40), .mv (.t 7), none, []⟩, ⟨(some 41), .fieldAddr 0 none (.t 9), none, []⟩, ⟨(some 42), .load none (.t 41), none, []⟩, ⟨(some 43), .lookup (.inl 1) (.t 40) (.t 42) (.i .i64 0) false, none, []⟩, ⟨(some 44), .bin .gtr (.t 43) (.c (.i .i64 1)), none, []⟩]) (.cond (.t 44) 
  (.seq (.region [⟨(some 4), .mv (.c (.b false)), none, []⟩]) .ret) .skip))) 
  (.seq (.region [⟨(some 46), .load (some 5) (.t 5), none, []⟩, ⟨(some 47), .fieldAddr 0 none (.t 9), none, []⟩, ⟨(some 48), .load none (.t 47), none, []⟩, ⟨(some 49), .call (.fn 15) [(.t 46), (.t 48)], none, []⟩, ⟨(some 45), .mv (.t 49), none, []⟩, ⟨(some 50), .extract (.t 45) 0, none, []⟩, ⟨(some 51), .extract (.t 45) 1, none, []⟩, ⟨(some 10), .alloc (.ag [(.s []), .nilsl, (.i .u8 0), (.s []), .nilsl, .nilsl]), none, []⟩, ⟨none, .store (some 6) (.t 10) (.t 50), none, []⟩, ⟨(some 11), .mv (.t 51), none, []⟩]) 
  (.seq 
  (.seq (.draw [⟨(some 52), .mv (.t 11), none, []⟩, ⟨(some 53), .bin .neq (.t 52) (.c (.i .i64 0)), none, []⟩, ⟨(some 54), .mv (.t 53), none, []⟩, ⟨(some 55), .load (some 6) (.t 10), (some (54, false)), []⟩, ⟨(some 56), .fieldAddr 4 none (.t 5), (some (54, false)), []⟩, ⟨(some 57), .load none (.t 56), (some (54, false)), []⟩, ⟨(some 58), .mv (.t 8), (some (54, false)), []⟩, ⟨(some 59), .idxSl (some 6) (.t 57) (.t 58), (some (54, false)), []⟩, ⟨(some 60), .load (some 6) (.t 59), (some (54, false)), []⟩, ⟨(some 61), .call (.fn 18) [(.t 55), (.t 60)], (some (54, false)), []⟩, ⟨(some 62), .not (.t 61), (some (54, false)), []⟩, ⟨(some 63), .pick (.t 54) (.c (.b true)) (.t 62), none, []⟩, ⟨(some 64), .mv (.t 63), none, []⟩, ⟨(some 65), .load (some 6) (.t 10), (some (64, false)), []⟩, ⟨(some 66), .call (.fn 19) [(.t 65)], (some (64, false)), []⟩, ⟨(some 67), .not (.t 66), (some (64, false)), []⟩, ⟨(some 68), .pick (.t 64) (.c (.b true)) (.t 67), none, []⟩]) (.cond (.t 68) 
  (.seq (.region [⟨(some 4), .mv (.c (.b false)), none, []⟩]) .ret) .skip)) 
  (.seq (.region [⟨(some 69), .fieldAddr 2 (some 4) (.t 9), none, []⟩, ⟨(some 70), .load (some 4) (.t 69), none, []⟩, ⟨(some 71), .buildSlice (some 4) 1 [(.i .u8 0), (.s []), .nilsl, .nilsl] [(0, (.t 70))], none, []⟩, ⟨(some 12), .mv (.t 71), none, []⟩]) 
  (.seq 
  (.seq (.region [⟨(some 72), .fieldAddr 1 none (.t 9), none, []⟩, ⟨(some 73), .load none (.t 72), none, []⟩, ⟨(some 74), .len 1 (.t 73), none, []⟩, ⟨(some 75), .mv (.c (.i .i64 0)), none, []⟩]) (.block 2 (.loop 
  (.seq (.region [⟨(some 76), .bin .lss (.t 75) (.t 74), none, []⟩]) 
  (.seq (.cond (.t 76) .skip (.exit 2)) 
  (.seq (.block 3 
  (.seq (.region [⟨(some 77), .idxSl (some 7) (.t 73) (.t 75), none, []⟩, ⟨(some 78), .load (some 7) (.t 77), none, []⟩, ⟨(some 14), .alloc (.ag [.nilsl, (.i .u8 0), (.s []), .nilsl, .nilsl, (.s []), (.b false)]), none, []⟩, ⟨none, .store (some 7) (.t 14) (.t 78), none, []⟩]) (.draw [⟨(some 79), .mv (.t 12), none, []⟩, ⟨(some 80), .fieldAddr 1 (some 4) (.t 14), none, []⟩, ⟨(some 81), .load (some 4) (.t 80), none, [6]⟩, ⟨(some 82), .buildSlice (some 4) 1 [(.i .u8 0), (.s []), .nilsl, .nilsl] [(0, (.t 81))], none, []⟩, ⟨(some 84), .fieldAddr 0 none (.t 14), none, []⟩, ⟨(some 85), .load none (.t 84), none, [7]⟩, ⟨(some 83), .append (some 4) 72 (.t 79) (.t 82), none, []⟩, ⟨(some 86), .append (some 4) 72 (.t 83) (.t 85), none, []⟩, ⟨(some 12), .mv (.t 86), none, []⟩]))) (.region [⟨(some 87), .bin .add (.t 75) (.c (.i .i64 1)), none, []⟩, ⟨(some 75), .mv (.t 87), none, []⟩]))))))) 
  (.seq (.region [⟨(some 88), .mv (.t 12), none, []⟩, ⟨(some 89), .len 1 (.t 88), none, []⟩, ⟨(some 90), .mv (.c (.i .i64 0)), none, []⟩]) (.block 4 (.loop 
  (.seq (.region [⟨(some 91), .bin .lss (.t 90) (.t 89), none, []⟩]) 
  (.seq (.cond (.t 91) .skip (.exit 4)) 
  (.seq (.block 5 
  (.seq (.region [⟨(some 92), .idxSl (some 4) (.t 88) (.t 90), none, []⟩, ⟨(some 93), .load (some 4) (.t 92), none, []⟩, ⟨(some 16), .alloc (.ag [(.i .u8 0), (.s []), .nilsl, .nilsl]), none, []⟩, ⟨none, .store (some 4) (.t 16) (.t 93), none, []⟩]) 
  (.seq (.draw [⟨(some 94), .load (some 4) (.t 16), none, []⟩, ⟨(some 96), .fieldAddr 1 none (.t 5), none, []⟩, ⟨(some 97), .load none (.t 96), none, [8]⟩, ⟨(some 98), .bin .or (.t 97) (.c (.i .u32 32768)), none, []⟩, ⟨(some 99), .bin .or (.t 98) (.c (.i .u32 65536)), none, []⟩, ⟨(some 95), .call (.fn 20) [(.t 94)], none, []⟩, ⟨(some 100), .bin .andNot (.t 95) (.t 99), none, []⟩, ⟨(some 101), .bin .neq (.t 100) (.c (.i .u32 0)), none, []⟩]) (.cond (.t 101) 
  (.seq (.region [⟨(some 4), .mv (.c (.b false)), none, []⟩]) .ret) .skip)))) (.region [⟨(some 102), .bin .add (.t 90) (.c (.i .i64 1)), none, []⟩, ⟨(some 90), .mv (.t 102), none, []⟩])))))))))))))) (.region [⟨(some 103), .bin .add (.t 30) (.c (.i .i64 1)), none, []⟩, ⟨(some 30), .mv (.t 103), none, []⟩]))))))) 
  (.seq (.region [⟨(some 105), .load (some 5) (.t 5), none, []⟩, ⟨(some 106), .mv (.t 1), none, []⟩, ⟨(some 107), .call (.fn 15) [(.t 105), (.t 106)], none, []⟩, ⟨(some 104), .mv (.t 107), none, []⟩, ⟨(some 108), .extract (.t 104) 0, none, []⟩, ⟨(some 109), .extract (.t 104) 1, none, []⟩, ⟨(some 17), .alloc (.ag [(.s []), .nilsl, (.i .u8 0), (.s []), .nilsl, .nilsl]), none, []⟩, ⟨none, .store (some 6) (.t 17) (.t 108), none, []⟩, ⟨(some 18), .mv (.t 109), none, []⟩]) 
  (.seq (.region [⟨(some 110), .mv (.t 18), none, []⟩, ⟨(some 111), .bin .eql (.t 110) (.c (.i .i64 0)), none, []⟩, ⟨(some 112), .mv (.t 7), none, []⟩, ⟨(some 113), .mv (.t 1), none, []⟩, ⟨(some 114), .lookup (.inl 1) (.t 112) (.t 113) (.i .i64 0) false, none, []⟩, ⟨(some 115), .bin .gtr (.t 114) (.c (.i .i64 0)), none, []⟩, ⟨(some 116), .binB false (.t 111) (.t 115), none, []⟩, ⟨(some 117), .mv (.t 116), none, []⟩, ⟨(some 118), .mv (.t 18), (some (117, true)), []⟩, ⟨(some 119), .bin .eql (.t 118) (.c (.i .i64 0)), (some (117, true)), []⟩, ⟨(some 120), .mv (.t 119), (some (117, true)), []⟩, ⟨(some 121), .mv (.t 18), (some (120, false)), []⟩, ⟨(some 122), .bin .eql (.t 121) (.c (.i .i64 6)), (some (120, false)), []⟩, ⟨(some 123), .pick (.t 120) (.c (.b true)) (.t 122), (some (117, true)), []⟩, ⟨(some 124), .pick (.t 117) (.t 123) (.c (.b false)), none, []⟩, ⟨(some 125), .mv (.t 124), none, []⟩, ⟨(some 126), .call (.fn 14) [], (some (125, true)), []⟩, ⟨(some 127), .pick (.t 125) (.t 126) (.c (.b false)), none, []⟩, ⟨(some 4), .mv (.t 127), none, []⟩]) .ret))))))))⟩
def c7 : AFunc := ⟨1, 77, [(2, (some (some 5))), (3, none)], (some 
  (.seq (.region [⟨(some 2), .alloc (.ag [(.s []), (.i .u32 0), (.i .u8 0), (.i .u8 0), .nilsl]), none, []⟩, ⟨(some 3), .mv (.c (.i .i64 0)), none, []⟩]) 
  (.seq (.region [⟨(some 6), .call (.fn 24) [], none, []⟩, ⟨(some 7), .call (.fn 25) [], none, []⟩, ⟨(some 4), .mv (.t 6), none, []⟩, ⟨(some 5), .mv (.t 7), none, []⟩]) 
  (.seq 
  (.seq (.region [⟨(some 8), .mv (.t 0), none, []⟩]) (.block 0 
  (.seq (.region [⟨(some 10), .bin .eql (.t 8) (.c (.s [75, 49])), none, []⟩, ⟨(some 9), .mv (.t 10), none, []⟩]) (.cond (.t 9) 
  (.seq (.region [⟨(some 11), .mv (.t 0), none, []⟩, ⟨(some 12), .mv (.t 4), none, []⟩, ⟨(some 13), .mv (.t 5), none, []⟩, ⟨(some 14), .buildSlice none 2 [.nilsl] [(0, (.t 12)), (1, (.t 13))], none, []⟩, ⟨(some 15), .call (.fn 26) [(.t 11), (.c (.i .u8 1)), (.c (.i .u8 0)), (.t 14)], none, []⟩, ⟨none, .store (some 5) (.t 2) (.t 15), none, []⟩, ⟨(some 3), .mv (.c (.i .i64 0)), none, []⟩]) .ret) 
  (.seq (.region [⟨(some 17), .bin .eql (.t 8) (.c (.s [74])), none, []⟩, ⟨(some 16), .mv (.t 17), none, []⟩]) (.cond (.t 16) 
  (.seq (.region [⟨(some 18), .mv (.t 0), none, []⟩, ⟨(some 19), .mv (.t 4), none, []⟩, ⟨(some 20), .buildSlice none 1 [.nilsl] [(0, (.t 19))], none, []⟩, ⟨(some 21), .call (.fn 26) [(.t 18), (.c (.i .u8 3)), (.c (.i .u8 0)), (.t 20)], none, []⟩, ⟨none, .store (some 5) (.t 2) (.t 21), none, []⟩, ⟨(some 3), .mv (.c (.i .i64 0)), none, []⟩]) .ret) 
  (.seq (.region [⟨(some 23), .bin .eql (.t 8) (.c (.s [75, 50])), none, []⟩, ⟨(some 22), .mv (.t 23), none, []⟩]) (.cond (.t 22) 
  (.seq (.region [⟨(some 24), .mv (.t 0), none, []⟩, ⟨(some 25), .mv (.t 4), none, []⟩, ⟨(some 26), .mv (.t 5), none, []⟩, ⟨(some 27), .call (.fn 27) [], none, []⟩, ⟨(some 28), .buildSlice none 3 [.nilsl] [(0, (.t 25)), (1, (.t 26)), (2, (.t 27))], none, []⟩, ⟨(some 29), .call (.fn 26) [(.t 24), (.c (.i .u8 2)), (.c (.i .u8 0)), (.t 28)], none, []⟩, ⟨none, .store (some 5) (.t 2) (.t 29), none, []⟩, ⟨(some 3), .mv (.c (.i .i64 0)), none, []⟩]) .ret) 
  (.seq (.region [⟨(some 31), .bin .eql (.t 8) (.c (.s [75])), none, []⟩, ⟨(some 30), .mv (.t 31), none, []⟩]) (.cond (.t 30) 
  (.seq (.region [⟨(some 32), .mv (.t 0), none, []⟩, ⟨(some 33), .mv (.t 4), none, []⟩, ⟨(some 34), .mv (.t 5), none, []⟩, ⟨(some 35), .call (.fn 28) [], none, []⟩, ⟨(some 36), .buildSlice none 3 [.nilsl] [(0, (.t 33)), (1, (.t 34)), (2, (.t 35))], none, []⟩, ⟨(some 37), .call (.fn 26) [(.t 32), (.c (.i .u8 4)), (.c (.i .u8 0)), (.t 36)], none, []⟩, ⟨none, .store (some 5) (.t 2) (.t 37), none, []⟩, ⟨(some 3), .mv (.c (.i .i64 0)), none, []⟩]) .ret) 
  (.seq (.region [⟨(some 39), .bin .eql (.t 8) (.c (.s [84])), none, []⟩, ⟨(some 38), .mv (.t 39), none, []⟩]) (.cond (.t 38) 
  (.seq (.region [⟨(some 40), .mv (.t 0), none, []⟩, ⟨(some 41), .mv (.t 4), none, []⟩, ⟨(some 42), .mv (.t 5), none, []⟩, ⟨(some 43), .call (.fn 28) [], none, []⟩, ⟨(some 44), .call (.fn 29) [], none, []⟩, ⟨(some 45), .buildSlice none 4 [.nilsl] [(0, (.t 41)), (1, (.t 42)), (2, (.t 43)), (3, (.t 44))], none, []⟩, ⟨(some 46), .call (.fn 26) [(.t 40), (.c (.i .u8 4)), (.c (.i .u8 1)), (.t 45)], none, []⟩, ⟨none, .store (some 5) (.t 2) (.t 46), none, []⟩, ⟨(some 3), .mv (.c (.i .i64 0)), none, []⟩]) .ret) 
  (.seq (.region [⟨(some 48), .bin .eql (.t 8) (.c (.s [83, 52])), none, []⟩, ⟨(some 47), .mv (.t 48), none, []⟩]) (.cond (.t 47) 
  (.seq (.region [⟨(some 49), .mv (.t 0), none, []⟩, ⟨(some 50), .mv (.t 4), none, []⟩, ⟨(some 51), .mv (.t 5), none, []⟩, ⟨(some 52), .call (.fn 28) [], none, []⟩, ⟨(some 53), .call (.fn 29) [], none, []⟩, ⟨(some 54), .call (.fn 30) [], none, []⟩, ⟨(some 55), .buildSlice none 5 [.nilsl] [(0, (.t 50)), (1, (.t 51)), (2, (.t 52)), (3, (.t 53)), (4, (.t 54))], none, []⟩, ⟨(some 56), .call (.fn 26) [(.t 49), (.c (.i .u8 4)), (.c (.i .u8 3)), (.t 55)], none, []⟩, ⟨none, .store (some 5) (.t 2) (.t 56), none, []⟩, ⟨(some 3), .mv (.c (.i .i64 0)), none, []⟩]) .ret) 
  (.seq (.region [⟨(some 58), .bin .eql (.t 8) (.c (.s [83, 53])), none, []⟩, ⟨(some 57), .mv (.t 58), none, []⟩]) (.cond (.t 57) 
  (.seq (.region [⟨(some 59), .mv (.t 0), none, []⟩, ⟨(some 60), .mv (.t 4), none, []⟩, ⟨(some 61), .mv (.t 5), none, []⟩, ⟨(some 62), .call (.fn 28) [], none, []⟩, ⟨(some 63), .call (.fn 29) [], none, []⟩, ⟨(some 64), .call (.fn 30) [], none, []⟩, ⟨(some 65), .call (.fn 31) [], none, []⟩, ⟨(some 66), .buildSlice none 6 [.nilsl] [(0, (.t 60)), (1, (.t 61)), (2, (.t 62)), (3, (.t 63)), (4, (.t 64)), (5, (.t 65))], none, []⟩, ⟨(some 67), .call (.fn 26) [(.t 59), (.c (.i .u8 4)), (.c (.i .u8 7)), (.t 66)], none, []⟩, ⟨none, .store (some 5) (.t 2) (.t 67), none, []⟩, ⟨(some 3), .mv (.c (.i .i64 0)), none, []⟩]) .ret) 
  (.seq (.region [⟨(some 69), .bin .eql (.t 8) (.c (.s [76])), none, []⟩, ⟨(some 68), .mv (.t 69), none, []⟩]) (.cond (.t 68) 
  (.seq (.region [⟨(some 70), .mv (.t 0), none, []⟩, ⟨(some 71), .mv (.t 4), none, []⟩, ⟨(some 72), .mv (.t 5), none, []⟩, ⟨(some 73), .call (.fn 32) [], none, []⟩, ⟨(some 74), .buildSlice none 3 [.nilsl] [(0, (.t 71)), (1, (.t 72)), (2, (.t 73))], none, []⟩, ⟨(some 75), .call (.fn 26) [(.t 70), (.c (.i .u8 5)), (.c (.i .u8 0)), (.t 74)], none, []⟩, ⟨none, .store (some 5) (.t 2) (.t 75), none, []⟩, ⟨(some 3), .mv (.c (.i .i64 0)), none, []⟩]) .ret) .skip)))))))))))))))))) 
  (.seq (.region [⟨(some 76), .build [(.s []), (.i .u32 0), (.i .u8 0), (.i .u8 0), .nilsl] [], none, []⟩, ⟨none, .store (some 5) (.t 2) (.t 76), none, []⟩, ⟨(some 3), .mv (.c (.i .i64 6)), none, []⟩]) .ret)))))⟩
def c11 : AFunc := ⟨0, 2, [(0, none)], (some 
  (.seq (.region [⟨(some 0), .mv (.c .nilsl), none, []⟩]) 
  (.seq (.region [⟨(some 1), .buildSlice none 8 [(.s [])] [(0, (.c (.s [75, 49]))), (1, (.c (.s [74]))), (2, (.c (.s [75, 50]))), (3, (.c (.s [75]))), (4, (.c (.s [84]))), (5, (.c (.s [83, 52]))), (6, (.c (.s [83, 53]))), (7, (.c (.s [76])))], none, []⟩, ⟨(some 0), .mv (.t 1), none, []⟩]) .ret)))⟩
def c13 : AFunc := ⟨1, 86, [(2, none)], (some 
  (.seq (.region [⟨(some 1), .box (.t 0), none, []⟩, ⟨(some 2), .mv (.c (.b false)), none, []⟩]) 
  (.seq (.region [⟨(some 8), .fieldAddr 2 none (.t 1), none, []⟩, ⟨(some 9), .load none (.t 8), none, []⟩, ⟨(some 10), .call (.fn 42) [(.t 9)], none, []⟩, ⟨(some 3), .mv (.t 10), none, []⟩]) 
  (.seq 
  (.seq (.region [⟨(some 11), .fieldAddr 0 none (.t 1), none, []⟩, ⟨(some 12), .load none (.t 11), none, []⟩, ⟨(some 13), .call (.fn 43) [(.t 12)], none, []⟩, ⟨(some 14), .not (.t 13), none, []⟩, ⟨(some 15), .mv (.t 14), none, []⟩, ⟨(some 16), .mv (.t 3), (some (15, false)), []⟩, ⟨(some 17), .bin .eql (.t 16) (.c (.i .u32 0)), (some (15, false)), []⟩, ⟨(some 18), .pick (.t 15) (.c (.b true)) (.t 17), none, []⟩, ⟨(some 19), .mv (.t 18), none, []⟩, ⟨(some 20), .fieldAddr 1 none (.t 1), (some (19, false)), []⟩, ⟨(some 21), .load none (.t 20), (some (19, false)), []⟩, ⟨(some 22), .bin .and (.t 21) (.c (.i .u32 2)), (some (19, false)), []⟩, ⟨(some 23), .bin .eql (.t 22) (.c (.i .u32 0)), (some (19, false)), []⟩, ⟨(some 24), .pick (.t 19) (.c (.b true)) (.t 23), none, []⟩, ⟨(some 25), .mv (.t 24), none, []⟩, ⟨(some 26), .fieldAddr 1 none (.t 1), (some (25, false)), []⟩, ⟨(some 27), .load none (.t 26), (some (25, false)), []⟩, ⟨(some 28), .mv (.t 3), (some (25, false)), []⟩, ⟨(some 29), .bin .andNot (.t 27) (.t 28), (some (25, false)), []⟩, ⟨(some 30), .bin .neq (.t 29) (.c (.i .u32 0)), (some (25, false)), []⟩, ⟨(some 31), .pick (.t 25) (.c (.b true)) (.t 30), none, []⟩]) (.cond (.t 31) 
  (.seq (.region [⟨(some 2), .mv (.c (.b false)), none, []⟩]) .ret) .skip)) 
  (.seq 
  (.seq (.region [⟨(some 32), .fieldAddr 3 none (.t 1), none, []⟩, ⟨(some 33), .load none (.t 32), none, []⟩, ⟨(some 34), .bin .andNot (.t 33) (.c (.i .u8 7)), none, []⟩, ⟨(some 35), .bin .neq (.t 34) (.c (.i .u8 0)), none, []⟩, ⟨(some 36), .mv (.t 35), none, []⟩, ⟨(some 37), .fieldAddr 3 none (.t 1), (some (36, false)), []⟩, ⟨(some 38), .load none (.t 37), (some (36, false)), []⟩, ⟨(some 39), .bin .neq (.t 38) (.c (.i .u8 0)), (some (36, false)), []⟩, ⟨(some 40), .mv (.t 39), (some (36, false)), []⟩, ⟨(some 41), .fieldAddr 2 none (.t 1), (some (40, true)), []⟩, ⟨(some 42), .load none (.t 41), (some (40, true)), []⟩, ⟨(some 43), .bin .neq (.t 42) (.c (.i .u8 4)), (some (40, true)), []⟩, ⟨(some 44), .pick (.t 40) (.t 43) (.c (.b false)), (some (36, false)), []⟩, ⟨(some 45), .pick (.t 36) (.c (.b true)) (.t 44), none, []⟩]) (.cond (.t 45) 
  (.seq (.region [⟨(some 2), .mv (.c (.b false)), none, []⟩]) .ret) .skip)) 
  (.seq 
  (.seq (.region [⟨(some 46), .fieldAddr 4 none (.t 1), none, []⟩, ⟨(some 47), .load none (.t 46), none, []⟩, ⟨(some 48), .len 1 (.t 47), none, []⟩, ⟨(some 49), .bin .gtr (.t 48) (.c (.i .i64 64)), none, []⟩]) (.cond (.t 49) 
  (.seq (.region [⟨(some 2), .mv (.c (.b false)), none, []⟩]) .ret) .skip)) 
  (.seq (.region [⟨(some 50), .fieldAddr 1 none (.t 1), none, []⟩, ⟨(some 51), .load none (.t 50), none, []⟩, ⟨(some 52), .bin .or (.t 51) (.c (.i .u32 32768)), none, []⟩, ⟨(some 4), .mv (.t 52), none, []⟩]) 
  (.seq 
  (.seq (.region [⟨(some 53), .fieldAddr 1 none (.t 1), none, []⟩, ⟨(some 54), .load none (.t 53), none, []⟩, ⟨(some 55), .bin .and (.t 54) (.c (.i .u32 768)), none, []⟩, ⟨(some 56), .bin .neq (.t 55) (.c (.i .u32 0)), none, []⟩]) (.cond (.t 56) (.region [⟨(some 57), .mv (.t 4), none, []⟩, ⟨(some 58), .bin .or (.t 57) (.c (.i .u32 65536)), none, []⟩, ⟨(some 4), .mv (.t 58), none, []⟩]) .skip)) 
  (.seq (.region [⟨(some 59), .mkMap, none, []⟩, ⟨(some 5), .mv (.t 59), none, []⟩]) 
  (.seq 
  (.seq (.region [⟨(some 60), .fieldAddr 4 none (.t 1), none, []⟩, ⟨(some 61), .load none (.t 60), none, []⟩, ⟨(some 62), .len 1 (.t 61), none, []⟩, ⟨(some 63), .mv (.c (.i .i64 0)), none, []⟩]) (.block 0 (.loop 
  (.seq (.region [⟨(some 64), .bin .lss (.t 63) (.t 62), none, []⟩]) 
  (.seq (.cond (.t 64) .skip (.exit 0)) 
  (.seq (.block 1 
  (.seq (.region [⟨(some 65), .idxSl (some 6) (.t 61) (.t 63), none, []⟩, ⟨(some 66), .load (some 6) (.t 65), none, []⟩, ⟨(some 7), .alloc (.ag [(.s []), .nilsl, (.i .u8 0), (.s []), .nilsl, .nilsl]), none, []⟩, ⟨none, .store (some 6) (.t 7) (.t 66), none, []⟩]) 
  (.seq 
  (.seq (.region [⟨(some 67), .mv (.t 5), none, []⟩, ⟨(some 68), .fieldAddr 0 none (.t 7), none, []⟩, ⟨(some 69), .load none (.t 68), none, []⟩, ⟨(some 70), .lookup (.inl 1) (.t 67) (.t 69) (.b false) false, none, []⟩, ⟨(some 71), .mv (.t 70), none, []⟩, ⟨(some 72), .load (some 6) (.t 7), (some (71, false)), []⟩, ⟨(some 73), .call (.fn 19) [(.t 72)], (some (71, false)), []⟩, ⟨(some 74), .not (.t 73), (some (71, false)), []⟩, ⟨(some 75), .pick (.t 71) (.c (.b true)) (.t 74), none, []⟩, ⟨(some 76), .mv (.t 75), none, []⟩, ⟨(some 77), .load (some 6) (.t 7), (some (76, false)), []⟩, ⟨(some 78), .mv (.t 4), (some (76, false)), []⟩, ⟨(some 79), .call (.fn 44) [(.t 77), (.t 78)], (some (76, false)), []⟩, ⟨(some 80), .not (.t 79), (some (76, false)), []⟩, ⟨(some 81), .pick (.t 76) (.c (.b true)) (.t 80), none, []⟩]) (.cond (.t 81) 
  (.seq (.region [⟨(some 2), .mv (.c (.b false)), none, []⟩]) .ret) .skip)) (.region [⟨(some 82), .mv (.t 5), none, []⟩, ⟨(some 83), .fieldAddr 0 none (.t 7), none, []⟩, ⟨(some 84), .load none (.t 83), none, []⟩, ⟨none, .mapUpd (.inl 1) (.t 82) (.t 84) (.c (.b true)), none, []⟩])))) (.region [⟨(some 85), .bin .add (.t 63) (.c (.i .i64 1)), none, []⟩, ⟨(some 63), .mv (.t 85), none, []⟩]))))))) 
  (.seq (.region [⟨(some 2), .mv (.c (.b true)), none, []⟩]) .ret)))))))))))⟩
def c14 : AFunc := ⟨0, 116, [(0, none)], (some 
  (.seq (.region [⟨(some 0), .mv (.c (.b false)), none, []⟩]) 
  (.seq (.region [⟨(some 15), .buildSlice none 8 [(.i .i64 0)] [(0, (.c (.i .i64 15))), (1, (.c (.i .i64 14))), (2, (.c (.i .i64 19))), (3, (.c (.i .i64 21))), (4, (.c (.i .i64 22))), (5, (.c (.i .i64 23))), (6, (.c (.i .i64 24))), (7, (.c (.i .i64 31)))], none, []⟩, ⟨(some 1), .mv (.t 15), none, []⟩]) 
  (.seq 
  (.seq (.region [⟨(some 16), .call (.fn 11) [], none, []⟩, ⟨(some 17), .len 1 (.t 16), none, []⟩, ⟨(some 18), .mv (.c (.i .i64 0)), none, []⟩]) (.block 0 (.loop 
  (.seq (.region [⟨(some 19), .bin .lss (.t 18) (.t 17), none, []⟩]) 
  (.seq (.cond (.t 19) .skip (.exit 0)) 
  (.seq (.block 1 
  (.seq (.region [⟨(some 20), .mv (.t 18), none, []⟩, ⟨(some 21), .idxSl none (.t 16) (.t 18), none, []⟩, ⟨(some 22), .load none (.t 21), none, []⟩, ⟨(some 2), .mv (.t 20), none, []⟩, ⟨(some 3), .mv (.t 22), none, []⟩]) 
  (.seq (.region [⟨(some 24), .mv (.t 3), none, []⟩, ⟨(some 25), .call (.fn 7) [(.t 24)], none, []⟩, ⟨(some 23), .mv (.t 25), none, []⟩, ⟨(some 26), .extract (.t 23) 0, none, []⟩, ⟨(some 27), .extract (.t 23) 1, none, []⟩, ⟨(some 4), .alloc (.ag [(.s []), (.i .u32 0), (.i .u8 0), (.i .u8 0), .nilsl]), none, []⟩, ⟨none, .store (some 5) (.t 4) (.t 26), none, []⟩, ⟨(some 5), .mv (.t 27), none, []⟩]) 
  (.seq (.draw [⟨(some 28), .mv (.t 5), none, []⟩, ⟨(some 29), .bin .neq (.t 28) (.c (.i .i64 0)), none, []⟩, ⟨(some 30), .mv (.t 29), none, []⟩, ⟨(some 31), .mv (.t 2), (some (30, false)), []⟩, ⟨(some 32), .mv (.t 1), (some (30, false)), []⟩, ⟨(some 33), .len 1 (.t 32), (some (30, false)), []⟩, ⟨(some 34), .bin .geq (.t 31) (.t 33), (some (30, false)), []⟩, ⟨(some 35), .pick (.t 30) (.c (.b true)) (.t 34), none, []⟩, ⟨(some 36), .mv (.t 35), none, []⟩, ⟨(some 37), .fieldAddr 4 none (.t 4), (some (36, false)), []⟩, ⟨(some 38), .load none (.t 37), (some (36, false)), []⟩, ⟨(some 39), .len 1 (.t 38), (some (36, false)), []⟩, ⟨(some 40), .mv (.t 1), (some (36, false)), []⟩, ⟨(some 41), .mv (.t 2), (some (36, false)), []⟩, ⟨(some 42), .idxSl none (.t 40) (.t 41), (some (36, false)), []⟩, ⟨(some 43), .load none (.t 42), (some (36, false)), []⟩, ⟨(some 44), .bin .neq (.t 39) (.t 43), (some (36, false)), []⟩, ⟨(some 45), .pick (.t 36) (.c (.b true)) (.t 44), none, []⟩]) (.cond (.t 45) 
  (.seq (.region [⟨(some 0), .mv (.c (.b false)), none, []⟩]) .ret) .skip))))) (.region [⟨(some 46), .bin .add (.t 18) (.c (.i .i64 1)), none, []⟩, ⟨(some 18), .mv (.t 46), none, []⟩]))))))) 
  (.seq (.region [⟨(some 48), .call (.fn 7) [(.c (.s [75, 49]))], none, []⟩, ⟨(some 47), .mv (.t 48), none, []⟩, ⟨(some 49), .extract (.t 47) 0, none, []⟩, ⟨(some 50), .extract (.t 47) 1, none, []⟩, ⟨(some 6), .alloc (.ag [(.s []), (.i .u32 0), (.i .u8 0), (.i .u8 0), .nilsl]), none, []⟩, ⟨none, .store (some 5) (.t 6) (.t 49), none, []⟩, ⟨(some 7), .mv (.t 50), none, []⟩]) 
  (.seq (.region [⟨(some 52), .call (.fn 7) [(.c (.s [75]))], none, []⟩, ⟨(some 51), .mv (.t 52), none, []⟩, ⟨(some 53), .extract (.t 51) 0, none, []⟩, ⟨(some 54), .extract (.t 51) 1, none, []⟩, ⟨(some 8), .alloc (.ag [(.s []), (.i .u32 0), (.i .u8 0), (.i .u8 0), .nilsl]), none, []⟩, ⟨none, .store (some 5) (.t 8) (.t 53), none, []⟩, ⟨(some 9), .mv (.t 54), none, []⟩]) 
  (.seq (.region [⟨(some 56), .call (.fn 7) [(.c (.s [75, 50]))], none, []⟩, ⟨(some 55), .mv (.t 56), none, []⟩, ⟨(some 57), .extract (.t 55) 0, none, []⟩, ⟨(some 58), .extract (.t 55) 1, none, []⟩, ⟨(some 10), .alloc (.ag [(.s []), (.i .u32 0), (.i .u8 0), (.i .u8 0), .nilsl]), none, []⟩, ⟨none, .store (some 5) (.t 10) (.t 57), none, []⟩, ⟨(some 11), .mv (.t 58), none, []⟩]) 
  (.seq (.draw [⟨(some 60), .load (some 5) (.t 6), none, [2, 4, 5]⟩, ⟨(some 61), .call (.fn 22) [(.c (.s [80])), (.c .nilsl)], none, []⟩, ⟨(some 62), .call (.fn 22) [(.c (.s [81])), (.c .nilsl)], none, []⟩, ⟨(some 63), .buildSlice (some 4) 2 [(.i .u8 0), (.s []), .nilsl, .nilsl] [(0, (.t 61)), (1, (.t 62))], none, []⟩, ⟨(some 64), .call (.fn 45) [(.c (.i .u8 4)), (.t 63)], none, []⟩, ⟨(some 65), .call (.fn 21) [(.t 60), (.t 64)], none, []⟩, ⟨(some 59), .mv (.t 65), none, []⟩, ⟨(some 66), .extract (.t 59) 0, none, []⟩, ⟨(some 67), .extract (.t 59) 1, none, []⟩, ⟨(some 12), .mv (.t 66), none, []⟩, ⟨(some 13), .mv (.t 67), none, []⟩]) 
  (.seq (.region [⟨(some 68), .build [(.b false), (.s []), .nilsl] [(0, 1, (.c (.b true))), (1, 1, (.c (.s [120])))], none, []⟩, ⟨(some 69), .buildSlice (some 3) 1 [(.b false), (.s []), .nilsl] [(0, (.t 68))], none, []⟩, ⟨(some 70), .call (.fn 22) [(.c (.s [80])), (.t 69)], none, []⟩, ⟨(some 14), .alloc (.ag [(.i .u8 0), (.s []), .nilsl, .nilsl]), none, []⟩, ⟨none, .store (some 4) (.t 14) (.t 70), none, []⟩]) 
  (.seq (.draw [⟨(some 71), .mv (.t 7), none, []⟩, ⟨(some 72), .bin .eql (.t 71) (.c (.i .i64 0)), none, []⟩, ⟨(some 73), .mv (.t 72), none, []⟩, ⟨(some 74), .mv (.t 9), (some (73, true)), []⟩, ⟨(some 75), .bin .eql (.t 74) (.c (.i .i64 0)), (some (73, true)), []⟩, ⟨(some 76), .pick (.t 73) (.t 75) (.c (.b false)), none, []⟩, ⟨(some 77), .mv (.t 76), none, []⟩, ⟨(some 78), .mv (.t 11), (some (77, true)), []⟩, ⟨(some 79), .bin .eql (.t 78) (.c (.i .i64 0)), (some (77, true)), []⟩, ⟨(some 80), .pick (.t 77) (.t 79) (.c (.b false)), none, []⟩, ⟨(some 81), .mv (.t 80), none, []⟩, ⟨(some 82), .mv (.t 13), (some (81, true)), []⟩, ⟨(some 83), .bin .eql (.t 82) (.c (.i .i64 0)), (some (81, true)), []⟩, ⟨(some 84), .pick (.t 81) (.t 83) (.c (.b false)), none, []⟩, ⟨(some 85), .mv (.t 84), none, []⟩, ⟨(some 86), .mv (.t 12), (some (85, true)), []⟩, ⟨(some 87), .buildSlice none 9 [(.s [])] [(0, (.c (.s [97, 110, 100, 73]))), (1, (.c (.s [97, 110, 100, 69, 49]))), (2, (.c (.s [97, 110, 100, 69, 50]))), (3, (.c (.s [111, 114, 69]))), (4, (.c (.s [105, 109, 112, 69]))), (5, (.c (.s [102, 97, 108, 115, 101, 69]))), (6, (.c (.s [105, 102, 102, 69, 49]))), (7, (.c (.s [105, 102, 102, 69, 50]))), (8, (.c (.s [114, 97, 97])))], (some (85, true)), []⟩, ⟨(some 88), .call (.fn 46) [(.t 86), (.t 87)], (some (85, true)), []⟩, ⟨(some 89), .pick (.t 85) (.t 88) (.c (.b false)), none, []⟩, ⟨(some 90), .mv (.t 89), none, []⟩, ⟨(some 91), .load (some 5) (.t 8), (some (90, true)), [23, 24]⟩, ⟨(some 92), .call (.fn 22) [(.c (.s [80])), (.c .nilsl)], (some (90, true)), []⟩, ⟨(some 93), .buildSlice (some 4) 1 [(.i .u8 0), (.s []), .nilsl, .nilsl] [(0, (.t 92))], (some (90, true)), []⟩, ⟨(some 94), .call (.fn 45) [(.c (.i .u8 10)), (.t 93)], (some (90, true)), []⟩, ⟨(some 95), .call (.fn 23) [(.t 91), (.t 94)], (some (90, true)), []⟩, ⟨(some 96), .pick (.t 90) (.t 95) (.c (.b false)), none, []⟩, ⟨(some 97), .mv (.t 96), none, []⟩, ⟨(some 98), .load (some 5) (.t 6), (some (97, true)), [30, 31]⟩, ⟨(some 99), .call (.fn 22) [(.c (.s [80])), (.c .nilsl)], (some (97, true)), []⟩, ⟨(some 100), .buildSlice (some 4) 1 [(.i .u8 0), (.s []), .nilsl, .nilsl] [(0, (.t 99))], (some (97, true)), []⟩, ⟨(some 101), .call (.fn 45) [(.c (.i .u8 10)), (.t 100)], (some (97, true)), []⟩, ⟨(some 102), .call (.fn 23) [(.t 98), (.t 101)], (some (97, true)), []⟩, ⟨(some 103), .not (.t 102), (some (97, true)), []⟩, ⟨(some 104), .pick (.t 97) (.t 103) (.c (.b false)), none, []⟩, ⟨(some 105), .mv (.t 104), none, []⟩, ⟨(some 106), .load (some 5) (.t 10), (some (105, true)), []⟩, ⟨(some 107), .load (some 4) (.t 14), (some (105, true)), []⟩, ⟨(some 108), .call (.fn 23) [(.t 106), (.t 107)], (some (105, true)), []⟩, ⟨(some 109), .pick (.t 105) (.t 108) (.c (.b false)), none, []⟩, ⟨(some 110), .mv (.t 109), none, []⟩, ⟨(some 111), .load (some 5) (.t 8), (some (110, true)), []⟩, ⟨(some 112), .load (some 4) (.t 14), (some (110, true)), []⟩, ⟨(some 113), .call (.fn 23) [(.t 111), (.t 112)], (some (110, true)), []⟩, ⟨(some 114), .not (.t 113), (some (110, true)), []⟩, ⟨(some 115), .pick (.t 110) (.t 114) (.c (.b false)), none, []⟩, ⟨(some 0), .mv (.t 115), none, []⟩]) .ret))))))))))⟩
def c15 : AFunc := ⟨2, 24, [(4, (some (some 6))), (5, none)], (some 
  (.seq (.region [⟨(some 2), .box (.t 0), none, []⟩, ⟨(some 3), .box (.t 1), none, []⟩, ⟨(some 4), .alloc (.ag [(.s []), .nilsl, (.i .u8 0), (.s []), .nilsl, .nilsl]), none, []⟩, ⟨(some 5), .mv (.c (.i .i64 0)), none, []⟩]) 
  (.seq 
  (.seq (.region [⟨(some 7), .load (some 5) (.t 2), none, []⟩, ⟨(some 8), .call (.fn 13) [(.t 7)], none, []⟩, ⟨(some 9), .not (.t 8), none, []⟩]) (.cond (.t 9) 
  (.seq (.region [⟨(some 10), .build [(.s []), .nilsl, (.i .u8 0), (.s []), .nilsl, .nilsl] [], none, []⟩, ⟨none, .store (some 6) (.t 4) (.t 10), none, []⟩, ⟨(some 5), .mv (.c (.i .i64 2)), none, []⟩]) .ret) .skip)) 
  (.seq (.region [⟨(some 11), .fieldAddr 4 none (.t 2), none, []⟩, ⟨(some 12), .load none (.t 11), none, []⟩, ⟨(some 13), .mkFunc (.func 48) [] [(.t 3)], none, []⟩, ⟨(some 14), .call (.fn 47) [(.t 12), (.t 13)], none, []⟩, ⟨(some 6), .mv (.t 14), none, []⟩]) 
  (.seq 
  (.seq (.region [⟨(some 15), .mv (.t 6), none, []⟩, ⟨(some 16), .bin .lss (.t 15) (.c (.i .i64 0)), none, []⟩]) (.cond (.t 16) 
  (.seq (.region [⟨(some 17), .build [(.s []), .nilsl, (.i .u8 0), (.s []), .nilsl, .nilsl] [], none, []⟩, ⟨none, .store (some 6) (.t 4) (.t 17), none, []⟩, ⟨(some 5), .mv (.c (.i .i64 6)), none, []⟩]) .ret) .skip)) 
  (.seq (.region [⟨(some 18), .fieldAddr 4 none (.t 2), none, []⟩, ⟨(some 19), .load none (.t 18), none, []⟩, ⟨(some 20), .mv (.t 6), none, []⟩, ⟨(some 21), .idxSl (some 6) (.t 19) (.t 20), none, []⟩, ⟨(some 22), .load (some 6) (.t 21), none, []⟩, ⟨(some 23), .call (.fn 49) [(.t 22)], none, []⟩, ⟨none, .store (some 6) (.t 4) (.t 23), none, []⟩, ⟨(some 5), .mv (.c (.i .i64 0)), none, []⟩]) .ret))))))⟩
def c17 : AFunc := ⟨1, 30, [(2, (some (some 5))), (3, none)], (some 
  (.seq (.region [⟨(some 2), .alloc (.ag [(.s []), (.i .u32 0), (.i .u8 0), (.i .u8 0), .nilsl]), none, []⟩, ⟨(some 3), .mv (.c (.b false)), none, []⟩]) 
  (.seq (.region [⟨(some 7), .call (.fn 11) [], none, []⟩, ⟨(some 4), .mv (.t 7), none, []⟩]) 
  (.seq 
  (.seq (.region [⟨(some 8), .mv (.t 4), none, []⟩, ⟨(some 9), .len 1 (.t 8), none, []⟩, ⟨(some 10), .bin .neq (.t 9) (.c (.i .i64 8)), none, []⟩]) (.cond (.t 10) 
  (.seq (.region [⟨(some 11), .build [(.s []), (.i .u32 0), (.i .u8 0), (.i .u8 0), .nilsl] [], none, []⟩, ⟨none, .store (some 5) (.t 2) (.t 11), none, []⟩, ⟨(some 3), .mv (.c (.b false)), none, []⟩]) .ret) .skip)) 
  (.seq (.region [⟨(some 13), .mv (.t 4), none, []⟩, ⟨(some 14), .mv (.t 0), none, []⟩, ⟨(some 15), .bin .rem (.t 14) (.c (.i .u8 8)), none, []⟩, ⟨(some 16), .idxSl none (.t 13) (.t 15), none, []⟩, ⟨(some 17), .load none (.t 16), none, []⟩, ⟨(some 18), .call (.fn 7) [(.t 17)], none, []⟩, ⟨(some 12), .mv (.t 18), none, []⟩, ⟨(some 19), .extract (.t 12) 0, none, []⟩, ⟨(some 20), .extract (.t 12) 1, none, []⟩, ⟨(some 5), .alloc (.ag [(.s []), (.i .u32 0), (.i .u8 0), (.i .u8 0), .nilsl]), none, []⟩, ⟨none, .store (some 5) (.t 5) (.t 19), none, []⟩, ⟨(some 6), .mv (.t 20), none, []⟩]) 
  (.seq (.draw [⟨(some 21), .load (some 5) (.t 5), none, []⟩, ⟨(some 22), .mv (.t 6), none, []⟩, ⟨(some 23), .bin .eql (.t 22) (.c (.i .i64 0)), none, []⟩, ⟨(some 24), .mv (.t 23), none, []⟩, ⟨(some 25), .fieldAddr 4 none (.t 5), (some (24, true)), []⟩, ⟨(some 26), .load none (.t 25), (some (24, true)), [11]⟩, ⟨(some 27), .len 1 (.t 26), (some (24, true)), [11]⟩, ⟨(some 28), .bin .gtr (.t 27) (.c (.i .i64 0)), (some (24, true)), []⟩, ⟨(some 29), .pick (.t 24) (.t 28) (.c (.b false)), none, []⟩, ⟨none, .store (some 5) (.t 2) (.t 21), none, []⟩, ⟨(some 3), .mv (.t 29), none, []⟩]) .ret))))))⟩
def c18 : AFunc := ⟨2, 24, [(4, none)], (some 
  (.seq (.region [⟨(some 2), .box (.t 0), none, []⟩, ⟨(some 3), .box (.t 1), none, []⟩, ⟨(some 4), .mv (.c (.b false)), none, []⟩]) 
  (.seq (.region [⟨(some 5), .fieldAddr 0 none (.t 2), none, []⟩, ⟨(some 6), .load none (.t 5), none, []⟩, ⟨(some 7), .fieldAddr 0 none (.t 3), none, []⟩, ⟨(some 8), .load none (.t 7), none, []⟩, ⟨(some 9), .bin .eql (.t 6) (.t 8), none, []⟩, ⟨(some 10), .mv (.t 9), none, []⟩, ⟨(some 11), .fieldAddr 1 none (.t 2), (some (10, true)), []⟩, ⟨(some 12), .load none (.t 11), (some (10, true)), []⟩, ⟨(some 13), .fieldAddr 1 none (.t 3), (some (10, true)), []⟩, ⟨(some 14), .load none (.t 13), (some (10, true)), []⟩, ⟨(some 15), .call (.fn 55) [(.t 12), (.t 14)], (some (10, true)), []⟩, ⟨(some 16), .pick (.t 10) (.t 15) (.c (.b false)), none, []⟩, ⟨(some 17), .mv (.t 16), none, []⟩, ⟨(some 18), .fieldAddr 2 (some 4) (.t 2), (some (17, true)), []⟩, ⟨(some 19), .load (some 4) (.t 18), (some (17, true)), []⟩, ⟨(some 20), .fieldAddr 2 (some 4) (.t 3), (some (17, true)), []⟩, ⟨(some 21), .load (some 4) (.t 20), (some (17, true)), []⟩, ⟨(some 22), .call (.fn 56) [(.t 19), (.t 21)], (some (17, true)), []⟩, ⟨(some 23), .pick (.t 17) (.t 22) (.c (.b false)), none, []⟩, ⟨(some 4), .mv (.t 23), none, []⟩]) .ret)))⟩
def c19 : AFunc := ⟨1, 76, [(2, (some none))], (some 
  (.seq (.region [⟨(some 1), .box (.t 0), none, []⟩, ⟨(some 2), .alloc (.b false), none, []⟩]) 
  (.seq 
  (.seq (.region [⟨(some 10), .fieldAddr 0 none (.t 1), none, []⟩, ⟨(some 11), .load none (.t 10), none, []⟩, ⟨(some 12), .call (.fn 57) [(.t 11)], none, []⟩, ⟨(some 13), .not (.t 12), none, []⟩, ⟨(some 14), .mv (.t 13), none, []⟩, ⟨(some 15), .fieldAddr 1 none (.t 1), (some (14, false)), []⟩, ⟨(some 16), .load none (.t 15), (some (14, false)), []⟩, ⟨(some 17), .len 1 (.t 16), (some (14, false)), []⟩, ⟨(some 18), .bin .gtr (.t 17) (.c (.i .i64 4)), (some (14, false)), []⟩, ⟨(some 19), .pick (.t 14) (.c (.b true)) (.t 18), none, []⟩, ⟨(some 20), .mv (.t 19), none, []⟩, ⟨(some 21), .fieldAddr 2 (some 4) (.t 1), (some (20, false)), []⟩, ⟨(some 22), .load (some 4) (.t 21), (some (20, false)), []⟩, ⟨(some 23), .call (.fn 58) [(.t 22)], (some (20, false)), []⟩, ⟨(some 24), .not (.t 23), (some (20, false)), []⟩, ⟨(some 25), .pick (.t 20) (.c (.b true)) (.t 24), none, []⟩]) (.cond (.t 25) 
  (.seq (.region [⟨none, .store none (.t 2) (.c (.b false)), none, []⟩]) .ret) .skip)) 
  (.seq (.region [⟨(some 26), .mkMap, none, []⟩, ⟨(some 3), .alloc (.m none), none, []⟩, ⟨none, .store none (.t 3) (.t 26), none, []⟩]) 
  (.seq (.region [⟨(some 27), .fieldAddr 2 (some 4) (.t 1), none, []⟩, ⟨(some 28), .load (some 4) (.t 27), none, []⟩, ⟨(some 29), .load none (.t 3), none, []⟩, ⟨(some 30), .call (.fn 59) [(.t 28), (.t 29)], none, []⟩]) 
  (.seq 
  (.seq (.region [⟨(some 31), .fieldAddr 1 none (.t 1), none, []⟩, ⟨(some 32), .load none (.t 31), none, []⟩, ⟨(some 33), .len 1 (.t 32), none, []⟩, ⟨(some 34), .mv (.c (.i .i64 0)), none, []⟩]) (.block 0 (.loop 
  (.seq (.region [⟨(some 35), .bin .lss (.t 34) (.t 33), none, []⟩]) 
  (.seq (.cond (.t 35) .skip (.exit 0)) 
  (.seq (.block 1 
  (.seq (.region [⟨(some 36), .idxSl (some 7) (.t 32) (.t 34), none, []⟩, ⟨(some 37), .load (some 7) (.t 36), none, []⟩, ⟨(some 5), .alloc (.ag [.nilsl, (.i .u8 0), (.s []), .nilsl, .nilsl, (.s []), (.b false)]), none, []⟩, ⟨none, .store (some 7) (.t 5) (.t 37), none, []⟩]) 
  (.seq 
  (.seq (.region [⟨(some 38), .fieldAddr 0 none (.t 5), none, []⟩, ⟨(some 39), .load none (.t 38), none, []⟩, ⟨(some 40), .len 1 (.t 39), none, []⟩, ⟨(some 41), .bin .gtr (.t 40) (.c (.i .i64 3)), none, []⟩]) (.cond (.t 41) 
  (.seq (.region [⟨none, .store none (.t 2) (.c (.b false)), none, []⟩]) .ret) .skip)) 
  (.seq 
  (.seq (.region [⟨(some 42), .load (some 7) (.t 5), none, []⟩, ⟨(some 43), .call (.fn 60) [(.t 42)], none, []⟩]) (.block 2 (.rangeFunc (.t 43) [44] (.region [⟨(some 6), .alloc (.ag [(.i .u8 0), (.s []), .nilsl, .nilsl]), none, []⟩, ⟨none, .store (some 4) (.t 6) (.t 44), none, []⟩]) (.block 3 
  (.seq (.region [⟨(some 45), .load (some 4) (.t 6), none, []⟩, ⟨(some 46), .call (.fn 58) [(.t 45)], none, []⟩, ⟨(some 47), .not (.t 46), none, []⟩]) (.cond (.t 47) 
  (.seq (.region [⟨none, .store none (.t 2) (.c (.b false)), none, []⟩]) .ret) .skip)))))) 
  (.seq 
  (.seq (.region [⟨(some 48), .load (some 7) (.t 5), none, []⟩, ⟨(some 49), .call (.fn 61) [(.t 48)], none, []⟩, ⟨(some 50), .not (.t 49), none, []⟩]) (.cond (.t 50) 
  (.seq (.region [⟨none, .store none (.t 2) (.c (.b false)), none, []⟩]) .ret) .skip)) (.region [⟨(some 51), .fieldAddr 1 (some 4) (.t 5), none, []⟩, ⟨(some 52), .load (some 4) (.t 51), none, []⟩, ⟨(some 53), .load none (.t 3), none, []⟩, ⟨(some 54), .call (.fn 59) [(.t 52), (.t 53)], none, []⟩])))))) (.region [⟨(some 55), .bin .add (.t 34) (.c (.i .i64 1)), none, []⟩, ⟨(some 34), .mv (.t 55), none, []⟩]))))))) 
  (.seq 
  (.seq (.region [⟨(some 56), .fieldAddr 2 (some 4) (.t 1), none, []⟩, ⟨(some 57), .load (some 4) (.t 56), none, []⟩, ⟨(some 58), .load none (.t 3), none, []⟩, ⟨(some 59), .call (.fn 62) [(.t 57), (.t 58)], none, []⟩, ⟨(some 60), .not (.t 59), none, []⟩]) (.cond (.t 60) 
  (.seq (.region [⟨none, .store none (.t 2) (.c (.b false)), none, []⟩]) .ret) .skip)) 
  (.seq 
  (.seq (.region [⟨(some 61), .fieldAddr 1 none (.t 1), none, []⟩, ⟨(some 62), .load none (.t 61), none, []⟩, ⟨(some 63), .len 1 (.t 62), none, []⟩, ⟨(some 64), .mv (.c (.i .i64 0)), none, []⟩]) (.block 4 (.loop 
  (.seq (.region [⟨(some 65), .bin .lss (.t 64) (.t 63), none, []⟩]) 
  (.seq (.cond (.t 65) .skip (.exit 4)) 
  (.seq (.block 5 
  (.seq (.region [⟨(some 66), .idxSl (some 7) (.t 62) (.t 64), none, []⟩, ⟨(some 67), .load (some 7) (.t 66), none, []⟩, ⟨(some 8), .alloc (.ag [.nilsl, (.i .u8 0), (.s []), .nilsl, .nilsl, (.s []), (.b false)]), none, []⟩, ⟨none, .store (some 7) (.t 8) (.t 67), none, []⟩]) 
  (.seq (.region [⟨(some 68), .load (some 7) (.t 8), none, []⟩, ⟨(some 69), .call (.fn 60) [(.t 68)], none, []⟩]) (.block 6 (.rangeFunc (.t 69) [70] (.region [⟨(some 9), .alloc (.ag [(.i .u8 0), (.s []), .nilsl, .nilsl]), none, []⟩, ⟨none, .store (some 4) (.t 9) (.t 70), none, []⟩]) (.block 7 
  (.seq (.region [⟨(some 71), .load (some 4) (.t 9), none, []⟩, ⟨(some 72), .load none (.t 3), none, []⟩, ⟨(some 73), .call (.fn 62) [(.t 71), (.t 72)], none, []⟩, ⟨(some 74), .not (.t 73), none, []⟩]) (.cond (.t 74) 
  (.seq (.region [⟨none, .store none (.t 2) (.c (.b false)), none, []⟩]) .ret) .skip)))))))) (.region [⟨(some 75), .bin .add (.t 64) (.c (.i .i64 1)), none, []⟩, ⟨(some 64), .mv (.t 75), none, []⟩]))))))) 
  (.seq (.region [⟨none, .store none (.t 2) (.c (.b true)), none, []⟩]) .ret)))))))))⟩
def c20 : AFunc := ⟨1, 17, [(2, none)], (some 
  (.seq (.region [⟨(some 1), .box (.t 0), none, []⟩, ⟨(some 2), .mv (.c (.i .u32 0)), none, []⟩]) 
  (.seq (.region [⟨(some 3), .alloc (.i .u32 0), none, []⟩]) 
  (.seq 
  (.seq (.region [⟨(some 5), .load (some 4) (.t 1), none, []⟩, ⟨(some 6), .call (.fn 63) [(.t 5)], none, []⟩]) (.block 0 (.rangeFunc (.t 6) [7] (.region [⟨(some 4), .alloc (.ag [(.i .u8 0), (.s []), .nilsl, .nilsl]), none, []⟩, ⟨none, .store (some 4) (.t 4) (.t 7), none, []⟩]) (.block 1 
  (.seq (.region [⟨(some 8), .fieldAddr 0 none (.t 4), none, []⟩, ⟨(some 9), .load none (.t 8), none, []⟩, ⟨(some 10), .bin .lss (.t 9) (.c (.i .u8 32)), none, []⟩]) (.cond (.t 10) (.region [⟨(some 11), .load none (.t 3), none, []⟩, ⟨(some 12), .fieldAddr 0 none (.t 4), none, []⟩, ⟨(some 13), .load none (.t 12), none, []⟩, ⟨(some 14), .bin .shl (.c (.i .u32 1)) (.t 13), none, []⟩, ⟨(some 15), .bin .or (.t 11) (.t 14), none, []⟩, ⟨none, .store none (.t 3) (.t 15), none, []⟩]) .skip)))))) 
  (.seq (.region [⟨(some 16), .load none (.t 3), none, []⟩, ⟨(some 2), .mv (.t 16), none, []⟩]) .ret)))))⟩
def c21 : AFunc := ⟨2, 43, [(4, none), (5, none)], (some 
  (.seq (.region [⟨(some 2), .box (.t 0), none, []⟩, ⟨(some 3), .box (.t 1), none, []⟩, ⟨(some 4), .mv (.c .nilsl), none, []⟩, ⟨(some 5), .mv (.c (.i .i64 0)), none, []⟩]) 
  (.seq 
  (.seq (.region [⟨(some 11), .load (some 5) (.t 2), none, []⟩, ⟨(some 12), .load (some 4) (.t 3), none, []⟩, ⟨(some 13), .call (.fn 23) [(.t 11), (.t 12)], none, []⟩, ⟨(some 14), .not (.t 13), none, []⟩]) (.cond (.t 14) 
  (.seq (.region [⟨(some 4), .mv (.c .nilsl), none, []⟩, ⟨(some 5), .mv (.c (.i .i64 2)), none, []⟩]) .ret) .skip)) 
  (.seq (.region [⟨(some 6), .mv (.c .nilsl), none, []⟩]) 
  (.seq 
  (.seq (.region [⟨(some 15), .fieldAddr 4 none (.t 2), none, []⟩, ⟨(some 16), .load none (.t 15), none, []⟩, ⟨(some 17), .len 1 (.t 16), none, []⟩, ⟨(some 18), .mv (.c (.i .i64 0)), none, []⟩]) (.block 0 (.loop 
  (.seq (.region [⟨(some 19), .bin .lss (.t 18) (.t 17), none, []⟩]) 
  (.seq (.cond (.t 19) .skip (.exit 0)) 
  (.seq (.block 1 
  (.seq (.region [⟨(some 20), .idxSl (some 6) (.t 16) (.t 18), none, []⟩, ⟨(some 21), .load (some 6) (.t 20), none, []⟩, ⟨(some 8), .alloc (.ag [(.s []), .nilsl, (.i .u8 0), (.s []), .nilsl, .nilsl]), none, []⟩, ⟨none, .store (some 6) (.t 8) (.t 21), none, []⟩]) 
  (.seq (.region [⟨(some 23), .fieldAddr 2 (some 4) (.t 8), none, []⟩, ⟨(some 24), .load (some 4) (.t 23), none, []⟩, ⟨(some 25), .load (some 4) (.t 3), none, []⟩, ⟨(some 26), .build [.nilsl, .nilsl] [], none, []⟩, ⟨(some 27), .call (.fn 64) [(.t 24), (.t 25), (.t 26)], none, []⟩, ⟨(some 22), .mv (.t 27), none, []⟩, ⟨(some 28), .extract (.t 22) 0, none, []⟩, ⟨(some 29), .extract (.t 22) 1, none, []⟩, ⟨(some 9), .alloc (.ag [.nilsl, .nilsl]), none, []⟩, ⟨none, .store (some 2) (.t 9) (.t 28), none, []⟩, ⟨(some 10), .mv (.t 29), none, []⟩]) 
  (.seq (.region [⟨(some 30), .mv (.t 10), none, []⟩, ⟨(some 31), .bin .eql (.t 30) (.c (.i .i64 0)), none, []⟩, ⟨(some 32), .mv (.t 31), none, []⟩, ⟨(some 33), .mv (.t 10), (some (32, false)), []⟩, ⟨(some 34), .bin .eql (.t 33) (.c (.i .i64 71)), (some (32, false)), []⟩, ⟨(some 35), .pick (.t 32) (.c (.b true)) (.t 34), none, []⟩]) (.cond (.t 35) (.region [⟨(some 36), .mv (.t 6), none, []⟩, ⟨(some 37), .fieldAddr 0 none (.t 8), none, []⟩, ⟨(some 38), .load none (.t 37), none, []⟩, ⟨(some 39), .buildSlice none 1 [(.s [])] [(0, (.t 38))], none, []⟩, ⟨(some 40), .append none 16 (.t 36) (.t 39), none, []⟩, ⟨(some 6), .mv (.t 40), none, []⟩]) .skip))))) (.region [⟨(some 41), .bin .add (.t 18) (.c (.i .i64 1)), none, []⟩, ⟨(some 18), .mv (.t 41), none, []⟩]))))))) 
  (.seq (.region [⟨(some 42), .mv (.t 6), none, []⟩, ⟨(some 4), .mv (.t 42), none, []⟩, ⟨(some 5), .mv (.c (.i .i64 0)), none, []⟩]) .ret))))))⟩
def c22 : AFunc := ⟨2, 8, [(4, (some (some 4)))], (some 
  (.seq (.region [⟨(some 4), .alloc (.ag [(.i .u8 0), (.s []), .nilsl, .nilsl]), none, []⟩]) 
  (.seq (.region [⟨(some 5), .mv (.t 0), none, []⟩, ⟨(some 6), .mv (.t 1), none, []⟩, ⟨(some 7), .build [(.i .u8 0), (.s []), .nilsl, .nilsl] [(0, 1, (.c (.i .u8 1))), (1, 1, (.t 5)), (2, 1, (.t 6))], none, []⟩, ⟨none, .store (some 4) (.t 4) (.t 7), none, []⟩]) .ret)))⟩
def c23 : AFunc := ⟨2, 12, [(4, none)], (some 
  (.seq (.region [⟨(some 2), .box (.t 0), none, []⟩, ⟨(some 3), .box (.t 1), none, []⟩, ⟨(some 4), .mv (.c (.b false)), none, []⟩]) 
  (.seq (.region [⟨(some 5), .load (some 5) (.t 2), none, []⟩, ⟨(some 6), .call (.fn 13) [(.t 5)], none, []⟩, ⟨(some 7), .mv (.t 6), none, []⟩, ⟨(some 8), .load (some 5) (.t 2), (some (7, true)), []⟩, ⟨(some 9), .load (some 4) (.t 3), (some (7, true)), []⟩, ⟨(some 10), .call (.fn 65) [(.t 8), (.t 9)], (some (7, true)), []⟩, ⟨(some 11), .pick (.t 7) (.t 10) (.c (.b false)), none, []⟩, ⟨(some 4), .mv (.t 11), none, []⟩]) .ret)))⟩
def c24 : AFunc := ⟨0, 18, [(0, none)], (some 
  (.seq (.region [⟨(some 0), .mv (.c .nilsl), none, []⟩]) 
  (.seq (.region [⟨(some 2), .build [(.s []), (.s []), (.s [])] [(0, 1, (.c (.s [97, 110, 100, 73]))), (1, 1, (.c (.s [63, 65, 59, 32, 63, 66]))), (2, 1, (.c (.s [63, 65, 32, 38, 32, 63, 66])))], none, []⟩, ⟨(some 3), .build [(.s []), (.s []), (.s [])] [(0, 1, (.c (.s [97, 110, 100, 69, 49]))), (1, 1, (.c (.s [63, 65, 32, 38, 32, 63, 66]))), (2, 1, (.c (.s [63, 65])))], none, []⟩, ⟨(some 4), .build [(.s []), (.s []), (.s [])] [(0, 1, (.c (.s [97, 110, 100, 69, 50]))), (1, 1, (.c (.s [63, 65, 32, 38, 32, 63, 66]))), (2, 1, (.c (.s [63, 66])))], none, []⟩, ⟨(some 5), .build [(.s []), (.s []), (.s [])] [(0, 1, (.c (.s [111, 114, 73, 49]))), (1, 1, (.c (.s [63, 65]))), (2, 1, (.c (.s [63, 65, 32, 124, 32, 63, 66])))], none, []⟩, ⟨(some 6), .build [(.s []), (.s []), (.s [])] [(0, 1, (.c (.s [111, 114, 73, 50]))), (1, 1, (.c (.s [63, 66]))), (2, 1, (.c (.s [63, 65, 32, 124, 32, 63, 66])))], none, []⟩, ⟨(some 7), .build [(.s []), (.s []), (.s [])] [(0, 1, (.c (.s [111, 114, 69]))), (1, 1, (.c (.s [63, 65, 32, 124, 32, 63, 66, 59, 32, 123, 63, 65, 125, 32, 63, 67, 59, 32, 123, 63, 66, 125, 32, 63, 67]))), (2, 1, (.c (.s [63, 67])))], none, []⟩, ⟨(some 8), .build [(.s []), (.s []), (.s [])] [(0, 1, (.c (.s [105, 109, 112, 73]))), (1, 1, (.c (.s [123, 63, 65, 125, 32, 63, 66]))), (2, 1, (.c (.s [63, 65, 32, 45, 62, 32, 63, 66])))], none, []⟩, ⟨(some 9), .build [(.s []), (.s []), (.s [])] [(0, 1, (.c (.s [105, 109, 112, 69]))), (1, 1, (.c (.s [63, 65, 32, 45, 62, 32, 63, 66, 59, 32, 63, 65]))), (2, 1, (.c (.s [63, 66])))], none, []⟩, ⟨(some 10), .build [(.s []), (.s []), (.s [])] [(0, 1, (.c (.s [110, 111, 116, 73]))), (1, 1, (.c (.s [123, 63, 65, 125, 32, 102, 97, 108, 115, 101]))), (2, 1, (.c (.s [126, 63, 65])))], none, []⟩, ⟨(some 11), .build [(.s []), (.s []), (.s [])] [(0, 1, (.c (.s [110, 111, 116, 69]))), (1, 1, (.c (.s [63, 65, 59, 32, 126, 63, 65]))), (2, 1, (.c (.s [102, 97, 108, 115, 101])))], none, []⟩, ⟨(some 12), .build [(.s []), (.s []), (.s [])] [(0, 1, (.c (.s [102, 97, 108, 115, 101, 69]))), (1, 1, (.c (.s [102, 97, 108, 115, 101]))), (2, 1, (.c (.s [63, 65])))], none, []⟩, ⟨(some 13), .build [(.s []), (.s []), (.s [])] [(0, 1, (.c (.s [105, 102, 102, 73]))), (1, 1, (.c (.s [123, 63, 65, 125, 32, 63, 66, 59, 32, 123, 63, 66, 125, 32, 63, 65]))), (2, 1, (.c (.s [63, 65, 32, 60, 45, 62, 32, 63, 66])))], none, []⟩, ⟨(some 14), .build [(.s []), (.s []), (.s [])] [(0, 1, (.c (.s [105, 102, 102, 69, 49]))), (1, 1, (.c (.s [63, 65, 32, 60, 45, 62, 32, 63, 66, 59, 32, 63, 65]))), (2, 1, (.c (.s [63, 66])))], none, []⟩, ⟨(some 15), .build [(.s []), (.s []), (.s [])] [(0, 1, (.c (.s [105, 102, 102, 69, 50]))), (1, 1, (.c (.s [63, 65, 32, 60, 45, 62, 32, 63, 66, 59, 32, 63, 66]))), (2, 1, (.c (.s [63, 65])))], none, []⟩, ⟨(some 16), .build [(.s []), (.s []), (.s []), (.s []), (.s []), (.s []), (.s []), (.s []), (.s []), (.s []), (.s []), (.s []), (.s []), (.s []), (.s []), (.s []), (.s []), (.s []), (.s []), (.s []), (.s []), (.s []), (.s []), (.s []), (.s []), (.s []), (.s []), (.s []), (.s []), (.s []), (.s []), (.s []), (.s []), (.s []), (.s []), (.s []), (.s []), (.s []), (.s []), (.s []), (.s []), (.s [])] [(0, 3, (.t 2)), (3, 3, (.t 3)), (6, 3, (.t 4)), (9, 3, (.t 5)), (12, 3, (.t 6)), (15, 3, (.t 7)), (18, 3, (.t 8)), (21, 3, (.t 9)), (24, 3, (.t 10)), (27, 3, (.t 11)), (30, 3, (.t 12)), (33, 3, (.t 13)), (36, 3, (.t 14)), (39, 3, (.t 15))], none, []⟩, ⟨(some 1), .alloc (.ag [(.s []), (.s []), (.s []), (.s []), (.s []), (.s []), (.s []), (.s []), (.s []), (.s []), (.s []), (.s []), (.s []), (.s []), (.s []), (.s []), (.s []), (.s []), (.s []), (.s []), (.s []), (.s []), (.s []), (.s []), (.s []), (.s []), (.s []), (.s []), (.s []), (.s []), (.s []), (.s []), (.s []), (.s []), (.s []), (.s []), (.s []), (.s []), (.s []), (.s []), (.s []), (.s [])]), none, []⟩, ⟨none, .store (some 42) (.t 1) (.t 16), none, []⟩]) 
  (.seq (.region [⟨(some 17), .sliceArr 14 (some 3) (.t 1) none none, none, []⟩, ⟨(some 0), .mv (.t 17), none, []⟩]) .ret))))⟩
def c25 : AFunc := ⟨0, 5, [(0, none)], (some 
  (.seq (.region [⟨(some 0), .mv (.c .nilsl), none, []⟩]) 
  (.seq (.region [⟨(some 2), .build [(.s []), (.s []), (.s [])] [(0, 1, (.c (.s [114, 97, 97]))), (1, 1, (.c (.s [123, 126, 63, 65, 125, 32, 102, 97, 108, 115, 101]))), (2, 1, (.c (.s [63, 65])))], none, []⟩, ⟨(some 3), .build [(.s []), (.s []), (.s [])] [(0, 3, (.t 2))], none, []⟩, ⟨(some 1), .alloc (.ag [(.s []), (.s []), (.s [])]), none, []⟩, ⟨none, .store (some 3) (.t 1) (.t 3), none, []⟩]) 
  (.seq (.region [⟨(some 4), .sliceArr 1 (some 3) (.t 1) none none, none, []⟩, ⟨(some 0), .mv (.t 4), none, []⟩]) .ret))))⟩
def c26 : AFunc := ⟨4, 60, [(8, (some (some 5)))], (some 
  (.seq (.region [⟨(some 8), .alloc (.ag [(.s []), (.i .u32 0), (.i .u8 0), (.i .u8 0), .nilsl]), none, []⟩]) 
  (.seq (.region [⟨(some 16), .mv (.t 0), none, []⟩, ⟨(some 17), .mv (.t 1), none, []⟩, ⟨(some 18), .call (.fn 42) [(.t 17)], none, []⟩, ⟨(some 19), .mv (.t 1), none, []⟩, ⟨(some 20), .mv (.t 2), none, []⟩, ⟨(some 21), .build [(.s []), (.i .u32 0), (.i .u8 0), (.i .u8 0), .nilsl] [(0, 1, (.t 16)), (1, 1, (.t 18)), (2, 1, (.t 19)), (3, 1, (.t 20))], none, []⟩, ⟨(some 9), .alloc (.ag [(.s []), (.i .u32 0), (.i .u8 0), (.i .u8 0), .nilsl]), none, []⟩, ⟨none, .store (some 5) (.t 9) (.t 21), none, []⟩]) 
  (.seq 
  (.seq (.region [⟨(some 22), .mv (.t 3), none, []⟩, ⟨(some 23), .len 1 (.t 22), none, []⟩, ⟨(some 24), .mv (.c (.i .i64 0)), none, []⟩]) (.block 0 (.loop 
  (.seq (.region [⟨(some 25), .bin .lss (.t 24) (.t 23), none, []⟩]) 
  (.seq (.cond (.t 25) .skip (.exit 0)) 
  (.seq (.block 1 
  (.seq (.region [⟨(some 26), .idxSl none (.t 22) (.t 24), none, []⟩, ⟨(some 27), .load none (.t 26), none, []⟩, ⟨(some 11), .mv (.t 27), none, []⟩]) 
  (.seq (.region [⟨(some 28), .mv (.t 11), none, []⟩, ⟨(some 29), .len 1 (.t 28), none, []⟩, ⟨(some 30), .mv (.c (.i .i64 0)), none, []⟩]) (.block 2 (.loop 
  (.seq (.region [⟨(some 31), .bin .lss (.t 30) (.t 29), none, []⟩]) 
  (.seq (.cond (.t 31) .skip (.exit 2)) 
  (.seq (.block 3 
  (.seq (.region [⟨(some 32), .idxSl (some 3) (.t 28) (.t 30), none, []⟩, ⟨(some 33), .load (some 3) (.t 32), none, []⟩, ⟨(some 13), .alloc (.ag [(.s []), (.s []), (.s [])]), none, []⟩, ⟨none, .store (some 3) (.t 13) (.t 33), none, []⟩]) 
  (.seq (.draw [⟨(some 34), .fieldAddr 0 none (.t 13), none, []⟩, ⟨(some 35), .load none (.t 34), none, [5, 7]⟩, ⟨(some 36), .fieldAddr 2 none (.t 13), none, []⟩, ⟨(some 37), .load none (.t 36), none, [5]⟩, ⟨(some 14), .alloc (.ag [(.s []), .nilsl, (.i .u8 0), (.s []), .nilsl, .nilsl]), none, []⟩, ⟨(some 38), .call (.fn 66) [(.t 37)], none, []⟩, ⟨(some 39), .build [(.s []), .nilsl, (.i .u8 0), (.s []), .nilsl, .nilsl] [(0, 1, (.t 35)), (2, 4, (.t 38))], none, []⟩, ⟨none, .store (some 6) (.t 14) (.t 39), none, []⟩]) 
  (.seq 
  (.seq (.region [⟨(some 40), .fieldAddr 1 none (.t 13), none, []⟩, ⟨(some 41), .load none (.t 40), none, []⟩, ⟨(some 42), .call (.fn 67) [(.t 41)], none, []⟩]) (.block 4 (.rangeFunc (.t 42) [43] (.region [⟨(some 15), .mv (.t 43), none, []⟩]) (.block 5 (.draw [⟨(some 44), .fieldAddr 1 none (.t 14), none, []⟩, ⟨(some 45), .load none (.t 44), none, [5]⟩, ⟨(some 46), .mv (.t 15), none, []⟩, ⟨(some 47), .call (.fn 68) [(.t 46)], none, []⟩, ⟨(some 48), .buildSlice (some 7) 1 [.nilsl, (.i .u8 0), (.s []), .nilsl, .nilsl, (.s []), (.b false)] [(0, (.t 47))], none, []⟩, ⟨(some 49), .append (some 7) 120 (.t 45) (.t 48), none, []⟩, ⟨(some 50), .fieldAddr 1 none (.t 14), none, []⟩, ⟨none, .store none (.t 50) (.t 49), none, []⟩]))))) (.region [⟨(some 51), .fieldAddr 4 none (.t 9), none, []⟩, ⟨(some 52), .load none (.t 51), none, []⟩, ⟨(some 53), .load (some 6) (.t 14), none, []⟩, ⟨(some 54), .buildSlice (some 6) 1 [(.s []), .nilsl, (.i .u8 0), (.s []), .nilsl, .nilsl] [(0, (.t 53))], none, []⟩, ⟨(some 55), .append (some 6) 112 (.t 52) (.t 54), none, []⟩, ⟨(some 56), .fieldAddr 4 none (.t 9), none, []⟩, ⟨none, .store none (.t 56) (.t 55), none, []⟩]))))) (.region [⟨(some 57), .bin .add (.t 30) (.c (.i .i64 1)), none, []⟩, ⟨(some 30), .mv (.t 57), none, []⟩]))))))))) (.region [⟨(some 58), .bin .add (.t 24) (.c (.i .i64 1)), none, []⟩, ⟨(some 24), .mv (.t 58), none, []⟩]))))))) 
  (.seq (.region [⟨(some 59), .load (some 5) (.t 9), none, []⟩, ⟨none, .store (some 5) (.t 8) (.t 59), none, []⟩]) .ret)))))⟩
def c27 : AFunc := ⟨0, 8, [(0, none)], (some 
  (.seq (.region [⟨(some 0), .mv (.c .nilsl), none, []⟩]) 
  (.seq (.region [⟨(some 2), .build [(.s []), (.s []), (.s [])] [(0, 1, (.c (.s [97, 108, 108, 73]))), (1, 1, (.c (.s [102, 114, 101, 115, 104, 32, 63, 97, 32, 63, 65, 91, 63, 97, 47, 120, 93]))), (2, 1, (.c (.s [97, 108, 108, 32, 120, 32, 63, 65])))], none, []⟩, ⟨(some 3), .build [(.s []), (.s []), (.s [])] [(0, 1, (.c (.s [97, 108, 108, 69]))), (1, 1, (.c (.s [97, 108, 108, 32, 120, 32, 63, 65]))), (2, 1, (.c (.s [63, 65, 91, 63, 116, 47, 120, 93])))], none, []⟩, ⟨(some 4), .build [(.s []), (.s []), (.s [])] [(0, 1, (.c (.s [115, 111, 109, 101, 73]))), (1, 1, (.c (.s [63, 65, 91, 63, 116, 47, 120, 93]))), (2, 1, (.c (.s [115, 111, 109, 101, 32, 120, 32, 63, 65])))], none, []⟩, ⟨(some 5), .build [(.s []), (.s []), (.s [])] [(0, 1, (.c (.s [115, 111, 109, 101, 69]))), (1, 1, (.c (.s [115, 111, 109, 101, 32, 120, 32, 63, 65, 59, 32, 102, 114, 101, 115, 104, 32, 63, 97, 32, 123, 63, 65, 91, 63, 97, 47, 120, 93, 125, 32, 63, 67]))), (2, 1, (.c (.s [63, 67])))], none, []⟩, ⟨(some 6), .build [(.s []), (.s []), (.s []), (.s []), (.s []), (.s []), (.s []), (.s []), (.s []), (.s []), (.s []), (.s [])] [(0, 3, (.t 2)), (3, 3, (.t 3)), (6, 3, (.t 4)), (9, 3, (.t 5))], none, []⟩, ⟨(some 1), .alloc (.ag [(.s []), (.s []), (.s []), (.s []), (.s []), (.s []), (.s []), (.s []), (.s []), (.s []), (.s []), (.s [])]), none, []⟩, ⟨none, .store (some 12) (.t 1) (.t 6), none, []⟩]) 
  (.seq (.region [⟨(some 7), .sliceArr 4 (some 3) (.t 1) none none, none, []⟩, ⟨(some 0), .mv (.t 7), none, []⟩]) .ret))))⟩
def c28 : AFunc := ⟨0, 10, [(0, none)], (some 
  (.seq (.region [⟨(some 0), .mv (.c .nilsl), none, []⟩]) 
  (.seq (.region [⟨(some 2), .build [(.s []), (.s []), (.s [])] [(0, 1, (.c (.s [98, 111, 120, 73, 48]))), (1, 1, (.c (.s [99, 108, 111, 115, 101, 100, 32, 63, 68]))), (2, 1, (.c (.s [91, 93, 63, 68])))], none, []⟩, ⟨(some 3), .build [(.s []), (.s []), (.s [])] [(0, 1, (.c (.s [98, 111, 120, 73, 49]))), (1, 1, (.c (.s [91, 93, 63, 65, 59, 32, 99, 108, 111, 115, 101, 100, 32, 123, 63, 65, 125, 32, 63, 68]))), (2, 1, (.c (.s [91, 93, 63, 68])))], none, []⟩, ⟨(some 4), .build [(.s []), (.s []), (.s [])] [(0, 1, (.c (.s [98, 111, 120, 73, 50]))), (1, 1, (.c (.s [91, 93, 63, 65, 59, 32, 91, 93, 63, 66, 59, 32, 99, 108, 111, 115, 101, 100, 32, 123, 63, 65, 59, 32, 63, 66, 125, 32, 63, 68]))), (2, 1, (.c (.s [91, 93, 63, 68])))], none, []⟩, ⟨(some 5), .build [(.s []), (.s []), (.s [])] [(0, 1, (.c (.s [98, 111, 120, 73, 51]))), (1, 1, (.c (.s [91, 93, 63, 65, 59, 32, 91, 93, 63, 66, 59, 32, 91, 93, 63, 67, 59, 32, 99, 108, 111, 115, 101, 100, 32, 123, 63, 65, 59, 32, 63, 66, 59, 32, 63, 67, 125, 32, 63, 68]))), (2, 1, (.c (.s [91, 93, 63, 68])))], none, []⟩, ⟨(some 6), .build [(.s []), (.s []), (.s [])] [(0, 1, (.c (.s [100, 105, 97, 73]))), (1, 1, (.c (.s [126, 91, 93, 126, 63, 65]))), (2, 1, (.c (.s [60, 62, 63, 65])))], none, []⟩, ⟨(some 7), .build [(.s []), (.s []), (.s [])] [(0, 1, (.c (.s [100, 105, 97, 69]))), (1, 1, (.c (.s [60, 62, 63, 65]))), (2, 1, (.c (.s [126, 91, 93, 126, 63, 65])))], none, []⟩, ⟨(some 8), .build [(.s []), (.s []), (.s []), (.s []), (.s []), (.s []), (.s []), (.s []), (.s []), (.s []), (.s []), (.s []), (.s []), (.s []), (.s []), (.s []), (.s []), (.s [])] [(0, 3, (.t 2)), (3, 3, (.t 3)), (6, 3, (.t 4)), (9, 3, (.t 5)), (12, 3, (.t 6)), (15, 3, (.t 7))], none, []⟩, ⟨(some 1), .alloc (.ag [(.s []), (.s []), (.s []), (.s []), (.s []), (.s []), (.s []), (.s []), (.s []), (.s []), (.s []), (.s []), (.s []), (.s []), (.s []), (.s []), (.s []), (.s [])]), none, []⟩, ⟨none, .store (some 18) (.t 1) (.t 8), none, []⟩]) 
  (.seq (.region [⟨(some 9), .sliceArr 6 (some 3) (.t 1) none none, none, []⟩, ⟨(some 0), .mv (.t 9), none, []⟩]) .ret))))⟩
def c29 : AFunc := ⟨0, 5, [(0, none)], (some 
  (.seq (.region [⟨(some 0), .mv (.c .nilsl), none, []⟩]) 
  (.seq (.region [⟨(some 2), .build [(.s []), (.s []), (.s [])] [(0, 1, (.c (.s [98, 111, 120, 69]))), (1, 1, (.c (.s [91, 93, 63, 65]))), (2, 1, (.c (.s [63, 65])))], none, []⟩, ⟨(some 3), .build [(.s []), (.s []), (.s [])] [(0, 3, (.t 2))], none, []⟩, ⟨(some 1), .alloc (.ag [(.s []), (.s []), (.s [])]), none, []⟩, ⟨none, .store (some 3) (.t 1) (.t 3), none, []⟩]) 
  (.seq (.region [⟨(some 4), .sliceArr 1 (some 3) (.t 1) none none, none, []⟩, ⟨(some 0), .mv (.t 4), none, []⟩]) .ret))))⟩
def c30 : AFunc := ⟨0, 5, [(0, none)], (some 
  (.seq (.region [⟨(some 0), .mv (.c .nilsl), none, []⟩]) 
  (.seq (.region [⟨(some 2), .build [(.s []), (.s []), (.s [])] [(0, 1, (.c (.s [98, 111, 120, 52]))), (1, 1, (.c (.s [91, 93, 63, 65]))), (2, 1, (.c (.s [91, 93, 91, 93, 63, 65])))], none, []⟩, ⟨(some 3), .build [(.s []), (.s []), (.s [])] [(0, 3, (.t 2))], none, []⟩, ⟨(some 1), .alloc (.ag [(.s []), (.s []), (.s [])]), none, []⟩, ⟨none, .store (some 3) (.t 1) (.t 3), none, []⟩]) 
  (.seq (.region [⟨(some 4), .sliceArr 1 (some 3) (.t 1) none none, none, []⟩, ⟨(some 0), .mv (.t 4), none, []⟩]) .ret))))⟩
def c31 : AFunc := ⟨0, 5, [(0, none)], (some 
  (.seq (.region [⟨(some 0), .mv (.c .nilsl), none, []⟩]) 
  (.seq (.region [⟨(some 2), .build [(.s []), (.s []), (.s [])] [(0, 1, (.c (.s [100, 105, 97, 53]))), (1, 1, (.c (.s [60, 62, 63, 65]))), (2, 1, (.c (.s [91, 93, 60, 62, 63, 65])))], none, []⟩, ⟨(some 3), .build [(.s []), (.s []), (.s [])] [(0, 3, (.t 2))], none, []⟩, ⟨(some 1), .alloc (.ag [(.s []), (.s []), (.s [])]), none, []⟩, ⟨none, .store (some 3) (.t 1) (.t 3), none, []⟩]) 
  (.seq (.region [⟨(some 4), .sliceArr 1 (some 3) (.t 1) none none, none, []⟩, ⟨(some 0), .mv (.t 4), none, []⟩]) .ret))))⟩
def c32 : AFunc := ⟨0, 20, [(0, none)], (some 
  (.seq (.region [⟨(some 0), .mv (.c .nilsl), none, []⟩]) 
  (.seq (.region [⟨(some 2), .build [(.s []), (.s []), (.s [])] [(0, 1, (.c (.s [110, 101, 120, 116, 73, 48]))), (1, 1, (.c (.s [99, 108, 111, 115, 101, 100, 32, 63, 68]))), (2, 1, (.c (.s [110, 101, 120, 116, 32, 63, 68])))], none, []⟩, ⟨(some 3), .build [(.s []), (.s []), (.s [])] [(0, 1, (.c (.s [110, 101, 120, 116, 73, 49]))), (1, 1, (.c (.s [110, 101, 120, 116, 32, 63, 65, 59, 32, 99, 108, 111, 115, 101, 100, 32, 123, 63, 65, 125, 32, 63, 68]))), (2, 1, (.c (.s [110, 101, 120, 116, 32, 63, 68])))], none, []⟩, ⟨(some 4), .build [(.s []), (.s []), (.s [])] [(0, 1, (.c (.s [110, 101, 120, 116, 73, 50]))), (1, 1, (.c (.s [110, 101, 120, 116, 32, 63, 65, 59, 32, 110, 101, 120, 116, 32, 63, 66, 59, 32, 99, 108, 111, 115, 101, 100, 32, 123, 63, 65, 59, 32, 63, 66, 125, 32, 63, 68]))), (2, 1, (.c (.s [110, 101, 120, 116, 32, 63, 68])))], none, []⟩, ⟨(some 5), .build [(.s []), (.s []), (.s [])] [(0, 1, (.c (.s [110, 101, 120, 116, 73, 51]))), (1, 1, (.c (.s [110, 101, 120, 116, 32, 63, 65, 59, 32, 110, 101, 120, 116, 32, 63, 66, 59, 32, 110, 101, 120, 116, 32, 63, 67, 59, 32, 99, 108, 111, 115, 101, 100, 32, 123, 63, 65, 59, 32, 63, 66, 59, 32, 63, 67, 125, 32, 63, 68]))), (2, 1, (.c (.s [110, 101, 120, 116, 32, 63, 68])))], none, []⟩, ⟨(some 6), .build [(.s []), (.s []), (.s [])] [(0, 1, (.c (.s [110, 101, 120, 116, 78, 49]))), (1, 1, (.c (.s [126, 110, 101, 120, 116, 32, 63, 65]))), (2, 1, (.c (.s [110, 101, 120, 116, 32, 126, 63, 65])))], none, []⟩, ⟨(some 7), .build [(.s []), (.s []), (.s [])] [(0, 1, (.c (.s [110, 101, 120, 116, 78, 50]))), (1, 1, (.c (.s [110, 101, 120, 116, 32, 126, 63, 65]))), (2, 1, (.c (.s [126, 110, 101, 120, 116, 32, 63, 65])))], none, []⟩, ⟨(some 8), .build [(.s []), (.s []), (.s [])] [(0, 1, (.c (.s [97, 108, 119, 73, 48]))), (1, 1, (.c (.s [99, 108, 111, 115, 101, 100, 32, 63, 68]))), (2, 1, (.c (.s [97, 108, 119, 97, 121, 115, 32, 63, 68])))], none, []⟩, ⟨(some 9), .build [(.s []), (.s []), (.s [])] [(0, 1, (.c (.s [97, 108, 119, 73, 49]))), (1, 1, (.c (.s [97, 108, 119, 97, 121, 115, 32, 63, 65, 59, 32, 99, 108, 111, 115, 101, 100, 32, 123, 63, 65, 125, 32, 63, 68]))), (2, 1, (.c (.s [97, 108, 119, 97, 121, 115, 32, 63, 68])))], none, []⟩, ⟨(some 10), .build [(.s []), (.s []), (.s [])] [(0, 1, (.c (.s [97, 108, 119, 73, 50]))), (1, 1, (.c (.s [97, 108, 119, 97, 121, 115, 32, 63, 65, 59, 32, 97, 108, 119, 97, 121, 115, 32, 63, 66, 59, 32, 99, 108, 111, 115, 101, 100, 32, 123, 63, 65, 59, 32, 63, 66, 125, 32, 63, 68]))), (2, 1, (.c (.s [97, 108, 119, 97, 121, 115, 32, 63, 68])))], none, []⟩, ⟨(some 11), .build [(.s []), (.s []), (.s [])] [(0, 1, (.c (.s [97, 108, 119, 73, 51]))), (1, 1, (.c (.s [97, 108, 119, 97, 121, 115, 32, 63, 65, 59, 32, 97, 108, 119, 97, 121, 115, 32, 63, 66, 59, 32, 97, 108, 119, 97, 121, 115, 32, 63, 67, 59, 32, 99, 108, 111, 115, 101, 100, 32, 123, 63, 65, 59, 32, 63, 66, 59, 32, 63, 67, 125, 32, 63, 68]))), (2, 1, (.c (.s [97, 108, 119, 97, 121, 115, 32, 63, 68])))], none, []⟩, ⟨(some 12), .build [(.s []), (.s []), (.s [])] [(0, 1, (.c (.s [97, 108, 119, 69]))), (1, 1, (.c (.s [97, 108, 119, 97, 121, 115, 32, 63, 65]))), (2, 1, (.c (.s [63, 65])))], none, []⟩, ⟨(some 13), .build [(.s []), (.s []), (.s [])] [(0, 1, (.c (.s [97, 108, 119, 88]))), (1, 1, (.c (.s [97, 108, 119, 97, 121, 115, 32, 63, 65]))), (2, 1, (.c (.s [110, 101, 120, 116, 32, 97, 108, 119, 97, 121, 115, 32, 63, 65])))], none, []⟩, ⟨(some 14), .build [(.s []), (.s []), (.s [])] [(0, 1, (.c (.s [105, 110, 100]))), (1, 1, (.c (.s [63, 65, 59, 32, 99, 108, 111, 115, 101, 100, 32, 123, 63, 65, 125, 32, 110, 101, 120, 116, 32, 63, 65]))), (2, 1, (.c (.s [97, 108, 119, 97, 121, 115, 32, 63, 65])))], none, []⟩, ⟨(some 15), .build [(.s []), (.s []), (.s [])] [(0, 1, (.c (.s [117, 110, 116, 73, 49]))), (1, 1, (.c (.s [63, 66]))), (2, 1, (.c (.s [63, 65, 32, 117, 110, 116, 105, 108, 32, 63, 66])))], none, []⟩, ⟨(some 16), .build [(.s []), (.s []), (.s [])] [(0, 1, (.c (.s [117, 110, 116, 73, 50]))), (1, 1, (.c (.s [63, 65, 59, 32, 110, 101, 120, 116, 32, 40, 63, 65, 32, 117, 110, 116, 105, 108, 32, 63, 66, 41]))), (2, 1, (.c (.s [63, 65, 32, 117, 110, 116, 105, 108, 32, 63, 66])))], none, []⟩, ⟨(some 17), .build [(.s []), (.s []), (.s [])] [(0, 1, (.c (.s [117, 110, 116, 69]))), (1, 1, (.c (.s [63, 65, 32, 117, 110, 116, 105, 108, 32, 63, 66, 59, 32, 99, 108, 111, 115, 101, 100, 32, 123, 63, 66, 125, 32, 63, 67, 59, 32, 99, 108, 111, 115, 101, 100, 32, 123, 63, 65, 59, 32, 110, 101, 120, 116, 32, 63, 67, 125, 32, 63, 67]))), (2, 1, (.c (.s [63, 67])))], none, []⟩, ⟨(some 18), .build [(.s []), (.s []), (.s []), (.s []), (.s []), (.s []), (.s []), (.s []), (.s []), (.s []), (.s []), (.s []), (.s []), (.s []), (.s []), (.s []), (.s []), (.s []), (.s []), (.s []), (.s []), (.s []), (.s []), (.s []), (.s []), (.s []), (.s []), (.s []), (.s []), (.s []), (.s []), (.s []), (.s []), (.s []), (.s []), (.s []), (.s []), (.s []), (.s []), (.s []), (.s []), (.s []), (.s []), (.s []), (.s []), (.s []), (.s []), (.s [])] [(0, 3, (.t 2)), (3, 3, (.t 3)), (6, 3, (.t 4)), (9, 3, (.t 5)), (12, 3, (.t 6)), (15, 3, (.t 7)), (18, 3, (.t 8)), (21, 3, (.t 9)), (24, 3, (.t 10)), (27, 3, (.t 11)), (30, 3, (.t 12)), (33, 3, (.t 13)), (36, 3, (.t 14)), (39, 3, (.t 15)), (42, 3, (.t 16)), (45, 3, (.t 17))], none, []⟩, ⟨(some 1), .alloc (.ag [(.s []), (.s []), (.s []), (.s []), (.s []), (.s []), (.s []), (.s []), (.s []), (.s []), (.s []), (.s []), (.s []), (.s []), (.s []), (.s []), (.s []), (.s []), (.s []), (.s []), (.s []), (.s []), (.s []), (.s []), (.s []), (.s []), (.s []), (.s []), (.s []), (.s []), (.s []), (.s []), (.s []), (.s []), (.s []), (.s []), (.s []), (.s []), (.s []), (.s []), (.s []), (.s []), (.s []), (.s []), (.s []), (.s []), (.s []), (.s [])]), none, []⟩, ⟨none, .store (some 48) (.t 1) (.t 18), none, []⟩]) 
  (.seq (.region [⟨(some 19), .sliceArr 16 (some 3) (.t 1) none none, none, []⟩, ⟨(some 0), .mv (.t 19), none, []⟩]) .ret))))⟩
def c42 : AFunc := ⟨1, 13, [(2, none)], (some 
  (.seq (.region [⟨(some 2), .mv (.c (.i .u32 0)), none, []⟩]) 
  (.seq 
  (.seq (.region [⟨(some 3), .mv (.t 0), none, []⟩]) (.block 0 
  (.seq 
  (.seq (.region [⟨(some 5), .bin .eql (.t 3) (.c (.i .u8 1)), none, []⟩, ⟨(some 4), .mv (.t 5), none, []⟩]) (.cond (.t 4) .skip (.region [⟨(some 6), .bin .eql (.t 3) (.c (.i .u8 3)), none, []⟩, ⟨(some 4), .mv (.t 6), none, []⟩]))) (.cond (.t 4) 
  (.seq (.region [⟨(some 2), .mv (.c (.i .u32 254)), none, []⟩]) .ret) 
  (.seq (.region [⟨(some 8), .bin .eql (.t 3) (.c (.i .u8 2)), none, []⟩, ⟨(some 7), .mv (.t 8), none, []⟩]) (.cond (.t 7) 
  (.seq (.region [⟨(some 2), .mv (.c (.i .u32 1022)), none, []⟩]) .ret) 
  (.seq (.region [⟨(some 10), .bin .eql (.t 3) (.c (.i .u8 4)), none, []⟩, ⟨(some 9), .mv (.t 10), none, []⟩]) (.cond (.t 9) 
  (.seq (.region [⟨(some 2), .mv (.c (.i .u32 3326)), none, []⟩]) .ret) 
  (.seq (.region [⟨(some 12), .bin .eql (.t 3) (.c (.i .u8 5)), none, []⟩, ⟨(some 11), .mv (.t 12), none, []⟩]) (.cond (.t 11) 
  (.seq (.region [⟨(some 2), .mv (.c (.i .u32 28926)), none, []⟩]) .ret) .skip)))))))))) 
  (.seq (.region [⟨(some 2), .mv (.c (.i .u32 0)), none, []⟩]) .ret))))⟩
def c43 : AFunc := ⟨1, 51, [(2, none)], (some 
  (.seq (.region [⟨(some 2), .mv (.c (.b false)), none, []⟩]) 
  (.seq 
  (.seq (.region [⟨(some 6), .mv (.t 0), none, []⟩, ⟨(some 7), .len 0 (.t 6), none, []⟩, ⟨(some 8), .bin .lss (.t 7) (.c (.i .i64 1)), none, []⟩, ⟨(some 9), .mv (.t 8), none, []⟩, ⟨(some 10), .mv (.t 0), (some (9, false)), []⟩, ⟨(some 11), .len 0 (.t 10), (some (9, false)), []⟩, ⟨(some 12), .bin .gtr (.t 11) (.c (.i .i64 16)), (some (9, false)), []⟩, ⟨(some 13), .pick (.t 9) (.c (.b true)) (.t 12), none, []⟩]) (.cond (.t 13) 
  (.seq (.region [⟨(some 2), .mv (.c (.b false)), none, []⟩]) .ret) .skip)) 
  (.seq 
  (.seq (.region [⟨(some 3), .mv (.c (.i .i64 0)), none, []⟩]) (.block 0 (.loop 
  (.seq 
  (.seq (.region [⟨(some 14), .mv (.t 3), none, []⟩, ⟨(some 15), .mv (.t 0), none, []⟩, ⟨(some 16), .len 0 (.t 15), none, []⟩, ⟨(some 17), .bin .lss (.t 14) (.t 16), none, []⟩]) (.cond (.t 17) .skip (.exit 0))) 
  (.seq (.block 1 
  (.seq (.region [⟨(some 20), .mv (.t 0), none, []⟩, ⟨(some 21), .mv (.t 3), none, []⟩, ⟨(some 22), .indexStr (.t 20) (.t 21), none, []⟩, ⟨(some 4), .mv (.t 22), none, []⟩]) 
  (.seq (.region [⟨(some 23), .mv (.t 4), none, []⟩, ⟨(some 24), .bin .geq (.t 23) (.c (.i .u8 97)), none, []⟩, ⟨(some 25), .mv (.t 24), none, []⟩, ⟨(some 26), .mv (.t 4), (some (25, true)), []⟩, ⟨(some 27), .bin .leq (.t 26) (.c (.i .u8 122)), (some (25, true)), []⟩, ⟨(some 28), .pick (.t 25) (.t 27) (.c (.b false)), none, []⟩, ⟨(some 29), .mv (.t 28), none, []⟩, ⟨(some 30), .mv (.t 4), (some (29, false)), []⟩, ⟨(some 31), .bin .geq (.t 30) (.c (.i .u8 65)), (some (29, false)), []⟩, ⟨(some 32), .mv (.t 31), (some (29, false)), []⟩, ⟨(some 33), .mv (.t 4), (some (32, true)), []⟩, ⟨(some 34), .bin .leq (.t 33) (.c (.i .u8 90)), (some (32, true)), []⟩, ⟨(some 35), .pick (.t 32) (.t 34) (.c (.b false)), (some (29, false)), []⟩, ⟨(some 36), .pick (.t 29) (.c (.b true)) (.t 35), none, []⟩, ⟨(some 5), .mv (.t 36), none, []⟩]) 
  (.seq (.region [⟨(some 37), .mv (.t 5), none, []⟩, ⟨(some 38), .not (.t 37), none, []⟩, ⟨(some 39), .mv (.t 38), none, []⟩, ⟨(some 40), .mv (.t 3), (some (39, true)), []⟩, ⟨(some 41), .bin .eql (.t 40) (.c (.i .i64 0)), (some (39, true)), []⟩, ⟨(some 42), .mv (.t 41), (some (39, true)), []⟩, ⟨(some 43), .mv (.t 4), (some (42, false)), []⟩, ⟨(some 44), .bin .lss (.t 43) (.c (.i .u8 48)), (some (42, false)), []⟩, ⟨(some 45), .pick (.t 42) (.c (.b true)) (.t 44), (some (39, true)), []⟩, ⟨(some 46), .mv (.t 45), (some (39, true)), []⟩, ⟨(some 47), .mv (.t 4), (some (46, false)), []⟩, ⟨(some 48), .bin .gtr (.t 47) (.c (.i .u8 57)), (some (46, false)), []⟩, ⟨(some 49), .pick (.t 46) (.c (.b true)) (.t 48), (some (39, true)), []⟩, ⟨(some 50), .pick (.t 39) (.t 49) (.c (.b false)), none, []⟩]) (.cond (.t 50) 
  (.seq (.region [⟨(some 2), .mv (.c (.b false)), none, []⟩]) .ret) .skip))))) (.region [⟨(some 18), .mv (.t 3), none, []⟩, ⟨(some 19), .bin .add (.t 18) (.c (.i .i64 1)), none, []⟩, ⟨(some 3), .mv (.t 19), none, []⟩])))))) 
  (.seq (.region [⟨(some 2), .mv (.c (.b true)), none, []⟩]) .ret)))))⟩
def c44 : AFunc := ⟨2, 42, [(4, none)], (some 
  (.seq (.region [⟨(some 2), .box (.t 0), none, []⟩, ⟨(some 4), .mv (.c (.b false)), none, []⟩]) 
  (.seq (.region [⟨(some 10), .fieldAddr 2 (some 4) (.t 2), none, []⟩, ⟨(some 11), .load (some 4) (.t 10), none, []⟩, ⟨(some 12), .call (.fn 20) [(.t 11)], none, []⟩, ⟨(some 5), .mv (.t 12), none, []⟩]) 
  (.seq 
  (.seq (.region [⟨(some 13), .fieldAddr 1 none (.t 2), none, []⟩, ⟨(some 14), .load none (.t 13), none, []⟩, ⟨(some 15), .len 1 (.t 14), none, []⟩, ⟨(some 16), .mv (.c (.i .i64 0)), none, []⟩]) (.block 0 (.loop 
  (.seq (.region [⟨(some 17), .bin .lss (.t 16) (.t 15), none, []⟩]) 
  (.seq (.cond (.t 17) .skip (.exit 0)) 
  (.seq (.block 1 
  (.seq (.region [⟨(some 18), .idxSl (some 7) (.t 14) (.t 16), none, []⟩, ⟨(some 19), .load (some 7) (.t 18), none, []⟩, ⟨(some 7), .alloc (.ag [.nilsl, (.i .u8 0), (.s []), .nilsl, .nilsl, (.s []), (.b false)]), none, []⟩, ⟨none, .store (some 7) (.t 7) (.t 19), none, []⟩]) 
  (.seq (.region [⟨(some 20), .mv (.t 5), none, []⟩, ⟨(some 21), .fieldAddr 1 (some 4) (.t 7), none, []⟩, ⟨(some 22), .load (some 4) (.t 21), none, []⟩, ⟨(some 23), .call (.fn 20) [(.t 22)], none, []⟩, ⟨(some 24), .bin .or (.t 20) (.t 23), none, []⟩, ⟨(some 5), .mv (.t 24), none, []⟩]) 
  (.seq (.region [⟨(some 25), .fieldAddr 0 none (.t 7), none, []⟩, ⟨(some 26), .load none (.t 25), none, []⟩, ⟨(some 27), .len 1 (.t 26), none, []⟩, ⟨(some 28), .mv (.c (.i .i64 0)), none, []⟩]) (.block 2 (.loop 
  (.seq (.region [⟨(some 29), .bin .lss (.t 28) (.t 27), none, []⟩]) 
  (.seq (.cond (.t 29) .skip (.exit 2)) 
  (.seq (.block 3 
  (.seq (.region [⟨(some 30), .idxSl (some 4) (.t 26) (.t 28), none, []⟩, ⟨(some 31), .load (some 4) (.t 30), none, []⟩, ⟨(some 9), .alloc (.ag [(.i .u8 0), (.s []), .nilsl, .nilsl]), none, []⟩, ⟨none, .store (some 4) (.t 9) (.t 31), none, []⟩]) (.region [⟨(some 32), .mv (.t 5), none, []⟩, ⟨(some 33), .load (some 4) (.t 9), none, []⟩, ⟨(some 34), .call (.fn 20) [(.t 33)], none, []⟩, ⟨(some 35), .bin .or (.t 32) (.t 34), none, []⟩, ⟨(some 5), .mv (.t 35), none, []⟩]))) (.region [⟨(some 36), .bin .add (.t 28) (.c (.i .i64 1)), none, []⟩, ⟨(some 28), .mv (.t 36), none, []⟩])))))))))) (.region [⟨(some 37), .bin .add (.t 16) (.c (.i .i64 1)), none, []⟩, ⟨(some 16), .mv (.t 37), none, []⟩]))))))) 
  (.seq (.region [⟨(some 38), .mv (.t 5), none, []⟩, ⟨(some 39), .mv (.t 1), none, []⟩, ⟨(some 40), .bin .andNot (.t 38) (.t 39), none, []⟩, ⟨(some 41), .bin .eql (.t 40) (.c (.i .u32 0)), none, []⟩, ⟨(some 4), .mv (.t 41), none, []⟩]) .ret)))))⟩
def c45 : AFunc := ⟨2, 8, [(4, (some (some 4)))], (some 
  (.seq (.region [⟨(some 4), .alloc (.ag [(.i .u8 0), (.s []), .nilsl, .nilsl]), none, []⟩]) 
  (.seq (.region [⟨(some 5), .mv (.t 0), none, []⟩, ⟨(some 6), .mv (.t 1), none, []⟩, ⟨(some 7), .build [(.i .u8 0), (.s []), .nilsl, .nilsl] [(0, 1, (.t 5)), (3, 1, (.t 6))], none, []⟩, ⟨none, .store (some 4) (.t 4) (.t 7), none, []⟩]) .ret)))⟩
def c46 : AFunc := ⟨2, 26, [(4, none)], (some 
  (.seq (.region [⟨(some 4), .mv (.c (.b false)), none, []⟩]) 
  (.seq 
  (.seq (.region [⟨(some 6), .mv (.t 0), none, []⟩, ⟨(some 7), .len 1 (.t 6), none, []⟩, ⟨(some 8), .mv (.t 1), none, []⟩, ⟨(some 9), .len 1 (.t 8), none, []⟩, ⟨(some 10), .bin .neq (.t 7) (.t 9), none, []⟩]) (.cond (.t 10) 
  (.seq (.region [⟨(some 4), .mv (.c (.b false)), none, []⟩]) .ret) .skip)) 
  (.seq 
  (.seq (.region [⟨(some 5), .mv (.c (.i .i64 0)), none, []⟩]) (.block 0 (.loop 
  (.seq 
  (.seq (.region [⟨(some 11), .mv (.t 5), none, []⟩, ⟨(some 12), .mv (.t 0), none, []⟩, ⟨(some 13), .len 1 (.t 12), none, []⟩, ⟨(some 14), .bin .lss (.t 11) (.t 13), none, []⟩]) (.cond (.t 14) .skip (.exit 0))) 
  (.seq (.block 1 
  (.seq (.draw [⟨(some 17), .mv (.t 0), none, []⟩, ⟨(some 18), .mv (.t 5), none, []⟩, ⟨(some 19), .idxSl none (.t 17) (.t 18), none, []⟩, ⟨(some 20), .load none (.t 19), none, []⟩, ⟨(some 21), .mv (.t 1), none, []⟩, ⟨(some 22), .mv (.t 5), none, []⟩, ⟨(some 23), .idxSl none (.t 21) (.t 22), none, []⟩, ⟨(some 24), .load none (.t 23), none, []⟩, ⟨(some 25), .bin .neq (.t 20) (.t 24), none, []⟩]) (.cond (.t 25) 
  (.seq (.region [⟨(some 4), .mv (.c (.b false)), none, []⟩]) .ret) .skip))) (.region [⟨(some 15), .mv (.t 5), none, []⟩, ⟨(some 16), .bin .add (.t 15) (.c (.i .i64 1)), none, []⟩, ⟨(some 5), .mv (.t 16), none, []⟩])))))) 
  (.seq (.region [⟨(some 4), .mv (.c (.b true)), none, []⟩]) .ret)))))⟩
def c47 : AFunc := ⟨2, 19, [(4, none)], (some 
  (.seq (.region [⟨(some 4), .mv (.c (.i .i64 0)), none, []⟩]) 
  (.seq 
  (.seq (.region [⟨(some 6), .mv (.t 0), none, []⟩, ⟨(some 7), .len 1 (.t 6), none, []⟩, ⟨(some 8), .mv (.c (.i .i64 0)), none, []⟩]) (.block 0 (.loop 
  (.seq (.region [⟨(some 9), .bin .lss (.t 8) (.t 7), none, []⟩]) 
  (.seq (.cond (.t 9) .skip (.exit 0)) 
  (.seq (.block 1 
  (.seq (.region [⟨(some 10), .mv (.t 8), none, []⟩, ⟨(some 5), .mv (.t 10), none, []⟩]) 
  (.seq (.region [⟨(some 11), .mv (.t 1), none, []⟩, ⟨(some 12), .mv (.t 0), none, []⟩, ⟨(some 13), .mv (.t 5), none, []⟩, ⟨(some 14), .idxSl (some 6) (.t 12) (.t 13), none, []⟩, ⟨(some 15), .load (some 6) (.t 14), none, []⟩, ⟨(some 16), .call (.val (.t 11)) [(.t 15)], none, []⟩]) (.cond (.t 16) 
  (.seq (.region [⟨(some 17), .mv (.t 5), none, []⟩, ⟨(some 4), .mv (.t 17), none, []⟩]) .ret) .skip)))) (.region [⟨(some 18), .bin .add (.t 8) (.c (.i .i64 1)), none, []⟩, ⟨(some 8), .mv (.t 18), none, []⟩]))))))) 
  (.seq (.region [⟨(some 4), .mv (.c (.i .i64 (-1))), none, []⟩]) .ret))))⟩
def c48 : AFunc := ⟨2, 8, [(3, none)], (some 
  (.seq (.region [⟨(some 2), .box (.t 0), none, []⟩, ⟨(some 3), .mv (.c (.b false)), none, []⟩]) 
  (.seq (.region [⟨(some 4), .fieldAddr 0 none (.t 2), none, []⟩, ⟨(some 5), .load none (.t 4), none, []⟩, ⟨(some 6), .load none (.t 1), none, []⟩, ⟨(some 7), .bin .eql (.t 5) (.t 6), none, []⟩, ⟨(some 3), .mv (.t 7), none, []⟩]) .ret)))⟩
def c49 : AFunc := ⟨1, 28, [(2, (some (some 6)))], (some 
  (.seq (.region [⟨(some 1), .box (.t 0), none, []⟩, ⟨(some 2), .alloc (.ag [(.s []), .nilsl, (.i .u8 0), (.s []), .nilsl, .nilsl]), none, []⟩]) 
  (.seq (.draw [⟨(some 6), .fieldAddr 0 none (.t 1), none, []⟩, ⟨(some 7), .load none (.t 6), none, [5, 7]⟩, ⟨(some 8), .fieldAddr 2 (some 4) (.t 1), none, []⟩, ⟨(some 9), .load (some 4) (.t 8), none, [5]⟩, ⟨(some 3), .alloc (.ag [(.s []), .nilsl, (.i .u8 0), (.s []), .nilsl, .nilsl]), none, []⟩, ⟨(some 10), .call (.fn 80) [(.t 9)], none, []⟩, ⟨(some 11), .build [(.s []), .nilsl, (.i .u8 0), (.s []), .nilsl, .nilsl] [(0, 1, (.t 7)), (2, 4, (.t 10))], none, []⟩, ⟨none, .store (some 6) (.t 3) (.t 11), none, []⟩]) 
  (.seq 
  (.seq (.region [⟨(some 12), .fieldAddr 1 none (.t 1), none, []⟩, ⟨(some 13), .load none (.t 12), none, []⟩, ⟨(some 14), .len 1 (.t 13), none, []⟩, ⟨(some 15), .mv (.c (.i .i64 0)), none, []⟩]) (.block 0 (.loop 
  (.seq (.region [⟨(some 16), .bin .lss (.t 15) (.t 14), none, []⟩]) 
  (.seq (.cond (.t 16) .skip (.exit 0)) 
  (.seq (.block 1 
  (.seq (.region [⟨(some 17), .idxSl (some 7) (.t 13) (.t 15), none, []⟩, ⟨(some 18), .load (some 7) (.t 17), none, []⟩, ⟨(some 5), .alloc (.ag [.nilsl, (.i .u8 0), (.s []), .nilsl, .nilsl, (.s []), (.b false)]), none, []⟩, ⟨none, .store (some 7) (.t 5) (.t 18), none, []⟩]) (.draw [⟨(some 19), .fieldAddr 1 none (.t 3), none, []⟩, ⟨(some 20), .load none (.t 19), none, [5]⟩, ⟨(some 21), .load (some 7) (.t 5), none, []⟩, ⟨(some 22), .call (.fn 81) [(.t 21)], none, []⟩, ⟨(some 23), .buildSlice (some 7) 1 [.nilsl, (.i .u8 0), (.s []), .nilsl, .nilsl, (.s []), (.b false)] [(0, (.t 22))], none, []⟩, ⟨(some 24), .append (some 7) 120 (.t 20) (.t 23), none, []⟩, ⟨(some 25), .fieldAddr 1 none (.t 3), none, []⟩, ⟨none, .store none (.t 25) (.t 24), none, []⟩]))) (.region [⟨(some 26), .bin .add (.t 15) (.c (.i .i64 1)), none, []⟩, ⟨(some 15), .mv (.t 26), none, []⟩]))))))) 
  (.seq (.region [⟨(some 27), .load (some 6) (.t 3), none, []⟩, ⟨none, .store (some 6) (.t 2) (.t 27), none, []⟩]) .ret)))))⟩
def c55 : AFunc := ⟨2, 27, [(4, none)], (some 
  (.seq (.region [⟨(some 4), .mv (.c (.b false)), none, []⟩]) 
  (.seq 
  (.seq (.region [⟨(some 6), .mv (.t 0), none, []⟩, ⟨(some 7), .len 1 (.t 6), none, []⟩, ⟨(some 8), .mv (.t 1), none, []⟩, ⟨(some 9), .len 1 (.t 8), none, []⟩, ⟨(some 10), .bin .neq (.t 7) (.t 9), none, []⟩]) (.cond (.t 10) 
  (.seq (.region [⟨(some 4), .mv (.c (.b false)), none, []⟩]) .ret) .skip)) 
  (.seq 
  (.seq (.region [⟨(some 5), .mv (.c (.i .i64 0)), none, []⟩]) (.block 0 (.loop 
  (.seq 
  (.seq (.region [⟨(some 11), .mv (.t 5), none, []⟩, ⟨(some 12), .mv (.t 0), none, []⟩, ⟨(some 13), .len 1 (.t 12), none, []⟩, ⟨(some 14), .bin .lss (.t 11) (.t 13), none, []⟩]) (.cond (.t 14) .skip (.exit 0))) 
  (.seq (.block 1 
  (.seq (.draw [⟨(some 17), .mv (.t 0), none, []⟩, ⟨(some 18), .mv (.t 5), none, []⟩, ⟨(some 19), .idxSl (some 7) (.t 17) (.t 18), none, []⟩, ⟨(some 20), .load (some 7) (.t 19), none, []⟩, ⟨(some 21), .mv (.t 1), none, []⟩, ⟨(some 22), .mv (.t 5), none, []⟩, ⟨(some 23), .idxSl (some 7) (.t 21) (.t 22), none, []⟩, ⟨(some 24), .load (some 7) (.t 23), none, []⟩, ⟨(some 25), .call (.fn 85) [(.t 20), (.t 24)], none, []⟩, ⟨(some 26), .not (.t 25), none, []⟩]) (.cond (.t 26) 
  (.seq (.region [⟨(some 4), .mv (.c (.b false)), none, []⟩]) .ret) .skip))) (.region [⟨(some 15), .mv (.t 5), none, []⟩, ⟨(some 16), .bin .add (.t 15) (.c (.i .i64 1)), none, []⟩, ⟨(some 5), .mv (.t 16), none, []⟩])))))) 
  (.seq (.region [⟨(some 4), .mv (.c (.b true)), none, []⟩]) .ret)))))⟩
def c56 : AFunc := ⟨2, 31, [(4, none)], (some 
  (.seq (.region [⟨(some 2), .box (.t 0), none, []⟩, ⟨(some 3), .box (.t 1), none, []⟩, ⟨(some 4), .mv (.c (.b false)), none, []⟩]) 
  (.seq (.region [⟨(some 5), .fieldAddr 0 none (.t 2), none, []⟩, ⟨(some 6), .load none (.t 5), none, []⟩, ⟨(some 7), .fieldAddr 0 none (.t 3), none, []⟩, ⟨(some 8), .load none (.t 7), none, []⟩, ⟨(some 9), .bin .eql (.t 6) (.t 8), none, []⟩, ⟨(some 10), .mv (.t 9), none, []⟩, ⟨(some 11), .fieldAddr 1 none (.t 2), (some (10, true)), []⟩, ⟨(some 12), .load none (.t 11), (some (10, true)), []⟩, ⟨(some 13), .fieldAddr 1 none (.t 3), (some (10, true)), []⟩, ⟨(some 14), .load none (.t 13), (some (10, true)), []⟩, ⟨(some 15), .bin .eql (.t 12) (.t 14), (some (10, true)), []⟩, ⟨(some 16), .pick (.t 10) (.t 15) (.c (.b false)), none, []⟩, ⟨(some 17), .mv (.t 16), none, []⟩, ⟨(some 18), .fieldAddr 2 none (.t 2), (some (17, true)), []⟩, ⟨(some 19), .load none (.t 18), (some (17, true)), []⟩, ⟨(some 20), .fieldAddr 2 none (.t 3), (some (17, true)), []⟩, ⟨(some 21), .load none (.t 20), (some (17, true)), []⟩, ⟨(some 22), .call (.fn 86) [(.t 19), (.t 21)], (some (17, true)), []⟩, ⟨(some 23), .pick (.t 17) (.t 22) (.c (.b false)), none, []⟩, ⟨(some 24), .mv (.t 23), none, []⟩, ⟨(some 25), .fieldAddr 3 none (.t 2), (some (24, true)), []⟩, ⟨(some 26), .load none (.t 25), (some (24, true)), []⟩, ⟨(some 27), .fieldAddr 3 none (.t 3), (some (24, true)), []⟩, ⟨(some 28), .load none (.t 27), (some (24, true)), []⟩, ⟨(some 29), .call (.fn 87) [(.t 26), (.t 28)], (some (24, true)), []⟩, ⟨(some 30), .pick (.t 24) (.t 29) (.c (.b false)), none, []⟩, ⟨(some 4), .mv (.t 30), none, []⟩]) .ret)))⟩
def c57 : AFunc := ⟨1, 51, [(2, none)], (some 
  (.seq (.region [⟨(some 2), .mv (.c (.b false)), none, []⟩]) 
  (.seq 
  (.seq (.region [⟨(some 6), .mv (.t 0), none, []⟩, ⟨(some 7), .len 0 (.t 6), none, []⟩, ⟨(some 8), .bin .lss (.t 7) (.c (.i .i64 1)), none, []⟩, ⟨(some 9), .mv (.t 8), none, []⟩, ⟨(some 10), .mv (.t 0), (some (9, false)), []⟩, ⟨(some 11), .len 0 (.t 10), (some (9, false)), []⟩, ⟨(some 12), .bin .gtr (.t 11) (.c (.i .i64 16)), (some (9, false)), []⟩, ⟨(some 13), .pick (.t 9) (.c (.b true)) (.t 12), none, []⟩]) (.cond (.t 13) 
  (.seq (.region [⟨(some 2), .mv (.c (.b false)), none, []⟩]) .ret) .skip)) 
  (.seq 
  (.seq (.region [⟨(some 3), .mv (.c (.i .i64 0)), none, []⟩]) (.block 0 (.loop 
  (.seq 
  (.seq (.region [⟨(some 14), .mv (.t 3), none, []⟩, ⟨(some 15), .mv (.t 0), none, []⟩, ⟨(some 16), .len 0 (.t 15), none, []⟩, ⟨(some 17), .bin .lss (.t 14) (.t 16), none, []⟩]) (.cond (.t 17) .skip (.exit 0))) 
  (.seq (.block 1 
  (.seq (.region [⟨(some 20), .mv (.t 0), none, []⟩, ⟨(some 21), .mv (.t 3), none, []⟩, ⟨(some 22), .indexStr (.t 20) (.t 21), none, []⟩, ⟨(some 4), .mv (.t 22), none, []⟩]) 
  (.seq (.region [⟨(some 23), .mv (.t 4), none, []⟩, ⟨(some 24), .bin .geq (.t 23) (.c (.i .u8 97)), none, []⟩, ⟨(some 25), .mv (.t 24), none, []⟩, ⟨(some 26), .mv (.t 4), (some (25, true)), []⟩, ⟨(some 27), .bin .leq (.t 26) (.c (.i .u8 122)), (some (25, true)), []⟩, ⟨(some 28), .pick (.t 25) (.t 27) (.c (.b false)), none, []⟩, ⟨(some 29), .mv (.t 28), none, []⟩, ⟨(some 30), .mv (.t 4), (some (29, false)), []⟩, ⟨(some 31), .bin .geq (.t 30) (.c (.i .u8 65)), (some (29, false)), []⟩, ⟨(some 32), .mv (.t 31), (some (29, false)), []⟩, ⟨(some 33), .mv (.t 4), (some (32, true)), []⟩, ⟨(some 34), .bin .leq (.t 33) (.c (.i .u8 90)), (some (32, true)), []⟩, ⟨(some 35), .pick (.t 32) (.t 34) (.c (.b false)), (some (29, false)), []⟩, ⟨(some 36), .pick (.t 29) (.c (.b true)) (.t 35), none, []⟩, ⟨(some 5), .mv (.t 36), none, []⟩]) 
  (.seq (.region [⟨(some 37), .mv (.t 5), none, []⟩, ⟨(some 38), .not (.t 37), none, []⟩, ⟨(some 39), .mv (.t 38), none, []⟩, ⟨(some 40), .mv (.t 3), (some (39, true)), []⟩, ⟨(some 41), .bin .eql (.t 40) (.c (.i .i64 0)), (some (39, true)), []⟩, ⟨(some 42), .mv (.t 41), (some (39, true)), []⟩, ⟨(some 43), .mv (.t 4), (some (42, false)), []⟩, ⟨(some 44), .bin .lss (.t 43) (.c (.i .u8 48)), (some (42, false)), []⟩, ⟨(some 45), .pick (.t 42) (.c (.b true)) (.t 44), (some (39, true)), []⟩, ⟨(some 46), .mv (.t 45), (some (39, true)), []⟩, ⟨(some 47), .mv (.t 4), (some (46, false)), []⟩, ⟨(some 48), .bin .gtr (.t 47) (.c (.i .u8 57)), (some (46, false)), []⟩, ⟨(some 49), .pick (.t 46) (.c (.b true)) (.t 48), (some (39, true)), []⟩, ⟨(some 50), .pick (.t 39) (.t 49) (.c (.b false)), none, []⟩]) (.cond (.t 50) 
  (.seq (.region [⟨(some 2), .mv (.c (.b false)), none, []⟩]) .ret) .skip))))) (.region [⟨(some 18), .mv (.t 3), none, []⟩, ⟨(some 19), .bin .add (.t 18) (.c (.i .i64 1)), none, []⟩, ⟨(some 3), .mv (.t 19), none, []⟩])))))) 
  (.seq (.region [⟨(some 2), .mv (.c (.b true)), none, []⟩]) .ret)))))⟩
def c58 : AFunc := ⟨1, 7, [(2, none)], (some 
  (.seq (.region [⟨(some 1), .box (.t 0), none, []⟩, ⟨(some 2), .mv (.c (.b false)), none, []⟩]) 
  (.seq (.region [⟨(some 4), .build [(.b false), (.i .i64 0), (.i .i64 0)] [(0, 1, (.c (.b true))), (1, 1, (.c (.i .i64 400))), (2, 1, (.c (.i .i64 40)))], none, []⟩, ⟨(some 3), .alloc (.ag [(.b false), (.i .i64 0), (.i .i64 0)]), none, []⟩, ⟨none, .store (some 3) (.t 3) (.t 4), none, []⟩]) 
  (.seq (.region [⟨(some 5), .load (some 4) (.t 1), none, []⟩, ⟨(some 6), .call (.fn 88) [(.t 3), (.t 5), (.c (.i .i64 1))], none, []⟩, ⟨(some 2), .mv (.t 6), none, []⟩]) .ret))))⟩
def c59 : AFunc := ⟨2, 23, [], (some 
  (.seq (.region [⟨(some 2), .box (.t 0), none, []⟩]) 
  (.seq 
  (.seq (.region [⟨(some 6), .fieldAddr 0 none (.t 2), none, []⟩, ⟨(some 7), .load none (.t 6), none, []⟩, ⟨(some 8), .bin .eql (.t 7) (.c (.i .u8 15)), none, []⟩]) (.cond (.t 8) (.region [⟨(some 9), .mv (.t 1), none, []⟩, ⟨(some 10), .fieldAddr 1 none (.t 2), none, []⟩, ⟨(some 11), .load none (.t 10), none, []⟩, ⟨none, .mapUpd (.inl 1) (.t 9) (.t 11) (.c (.b true)), none, []⟩]) .skip)) 
  (.seq (.region [⟨(some 12), .fieldAddr 3 none (.t 2), none, []⟩, ⟨(some 13), .load none (.t 12), none, []⟩, ⟨(some 14), .len 1 (.t 13), none, []⟩, ⟨(some 15), .mv (.c (.i .i64 0)), none, []⟩]) (.block 0 (.loop 
  (.seq (.region [⟨(some 16), .bin .lss (.t 15) (.t 14), none, []⟩]) 
  (.seq (.cond (.t 16) .skip (.exit 0)) 
  (.seq (.block 1 
  (.seq (.region [⟨(some 17), .idxSl (some 4) (.t 13) (.t 15), none, []⟩, ⟨(some 18), .load (some 4) (.t 17), none, []⟩, ⟨(some 5), .alloc (.ag [(.i .u8 0), (.s []), .nilsl, .nilsl]), none, []⟩, ⟨none, .store (some 4) (.t 5) (.t 18), none, []⟩]) (.region [⟨(some 19), .load (some 4) (.t 5), none, []⟩, ⟨(some 20), .mv (.t 1), none, []⟩, ⟨(some 21), .call (.fn 59) [(.t 19), (.t 20)], none, []⟩]))) (.region [⟨(some 22), .bin .add (.t 15) (.c (.i .i64 1)), none, []⟩, ⟨(some 15), .mv (.t 22), none, []⟩]))))))))))⟩
def c60 : AFunc := ⟨1, 4, [(2, none)], (some 
  (.seq (.region [⟨(some 1), .box (.t 0), none, []⟩, ⟨(some 2), .mv (.c .nf), none, []⟩]) 
  (.seq (.region [⟨(some 3), .mkFunc (.func 89) [] [(.t 1)], none, []⟩, ⟨(some 2), .mv (.t 3), none, []⟩]) .ret)))⟩
def c61 : AFunc := ⟨1, 14, [(2, (some none))], (some 
  (.seq (.region [⟨(some 1), .box (.t 0), none, []⟩, ⟨(some 2), .alloc (.b false), none, []⟩]) 
  (.seq 
  (.seq (.region [⟨(some 4), .fieldAddr 5 none (.t 1), none, []⟩, ⟨(some 5), .load none (.t 4), none, []⟩, ⟨(some 6), .bin .eql (.t 5) (.c (.s [])), none, []⟩]) (.cond (.t 6) 
  (.seq (.region [⟨none, .store none (.t 2) (.c (.b true)), none, []⟩]) .ret) .skip)) 
  (.seq 
  (.seq (.region [⟨(some 7), .load (some 7) (.t 1), none, []⟩, ⟨(some 8), .call (.fn 60) [(.t 7)], none, []⟩]) (.block 0 (.rangeFunc (.t 8) [9] (.region [⟨(some 3), .alloc (.ag [(.i .u8 0), (.s []), .nilsl, .nilsl]), none, []⟩, ⟨none, .store (some 4) (.t 3) (.t 9), none, []⟩]) (.block 1 
  (.seq (.region [⟨(some 10), .load (some 4) (.t 3), none, []⟩, ⟨(some 11), .fieldAddr 5 none (.t 1), none, []⟩, ⟨(some 12), .load none (.t 11), none, []⟩, ⟨(some 13), .call (.fn 90) [(.t 10), (.t 12)], none, []⟩]) (.cond (.t 13) 
  (.seq (.region [⟨none, .store none (.t 2) (.c (.b true)), none, []⟩]) .ret) .skip)))))) 
  (.seq (.region [⟨none, .store none (.t 2) (.c (.b false)), none, []⟩]) .ret)))))⟩
def c62 : AFunc := ⟨2, 24, [(4, none)], (some 
  (.seq (.region [⟨(some 2), .box (.t 0), none, []⟩, ⟨(some 4), .mv (.c (.b false)), none, []⟩]) 
  (.seq 
  (.seq (.region [⟨(some 7), .load (some 4) (.t 2), none, []⟩, ⟨(some 8), .call (.fn 82) [(.t 7)], none, []⟩, ⟨(some 9), .len 1 (.t 8), none, []⟩, ⟨(some 10), .mv (.c (.i .i64 0)), none, []⟩]) (.block 0 (.loop 
  (.seq (.region [⟨(some 11), .bin .lss (.t 10) (.t 9), none, []⟩]) 
  (.seq (.cond (.t 11) .skip (.exit 0)) 
  (.seq (.block 1 
  (.seq (.region [⟨(some 12), .idxSl none (.t 8) (.t 10), none, []⟩, ⟨(some 13), .load none (.t 12), none, []⟩, ⟨(some 6), .mv (.t 13), none, []⟩]) 
  (.seq (.region [⟨(some 14), .mv (.t 6), none, []⟩, ⟨(some 15), .sliceStr (.t 14) (some (.c (.i .i64 1))) none, none, []⟩, ⟨(some 16), .call (.fn 91) [(.t 15)], none, []⟩, ⟨(some 17), .mv (.t 16), none, []⟩, ⟨(some 18), .mv (.t 1), (some (17, true)), []⟩, ⟨(some 19), .mv (.t 6), (some (17, true)), []⟩, ⟨(some 20), .lookup (.inl 1) (.t 18) (.t 19) (.b false) false, (some (17, true)), []⟩, ⟨(some 21), .not (.t 20), (some (17, true)), []⟩, ⟨(some 22), .pick (.t 17) (.t 21) (.c (.b false)), none, []⟩]) (.cond (.t 22) 
  (.seq (.region [⟨(some 4), .mv (.c (.b false)), none, []⟩]) .ret) .skip)))) (.region [⟨(some 23), .bin .add (.t 10) (.c (.i .i64 1)), none, []⟩, ⟨(some 10), .mv (.t 23), none, []⟩]))))))) 
  (.seq (.region [⟨(some 4), .mv (.c (.b true)), none, []⟩]) .ret))))⟩
def c63 : AFunc := ⟨1, 4, [(2, none)], (some 
  (.seq (.region [⟨(some 1), .box (.t 0), none, []⟩, ⟨(some 2), .mv (.c .nf), none, []⟩]) 
  (.seq (.region [⟨(some 3), .mkFunc (.func 92) [] [(.t 1)], none, []⟩, ⟨(some 2), .mv (.t 3), none, []⟩]) .ret)))⟩
def c64 : AFunc := ⟨3, 23, [(6, (some (some 2))), (7, none)], (some 
  (.seq (.region [⟨(some 3), .box (.t 0), none, []⟩, ⟨(some 4), .box (.t 1), none, []⟩, ⟨(some 5), .box (.t 2), none, []⟩, ⟨(some 6), .alloc (.ag [.nilsl, .nilsl]), none, []⟩, ⟨(some 7), .mv (.c (.i .i64 0)), none, []⟩]) 
  (.seq (.region [⟨(some 12), .load (some 4) (.t 3), none, []⟩, ⟨(some 13), .load (some 4) (.t 4), none, []⟩, ⟨(some 14), .build [(.i .u8 0), (.s []), .nilsl, .nilsl, (.i .u8 0), (.s []), .nilsl, .nilsl] [(0, 4, (.t 12)), (4, 4, (.t 13))], none, []⟩, ⟨(some 15), .buildSlice (some 8) 1 [(.i .u8 0), (.s []), .nilsl, .nilsl, (.i .u8 0), (.s []), .nilsl, .nilsl] [(0, (.t 14))], none, []⟩, ⟨(some 16), .load (some 2) (.t 5), none, []⟩, ⟨(some 17), .call (.fn 94) [(.t 15), (.t 16)], none, []⟩, ⟨(some 11), .mv (.t 17), none, []⟩, ⟨(some 18), .extract (.t 11) 0, none, []⟩, ⟨(some 19), .extract (.t 11) 1, none, []⟩, ⟨(some 20), .extract (.t 11) 2, none, []⟩, ⟨(some 8), .alloc (.ag [.nilsl, .nilsl]), none, []⟩, ⟨none, .store (some 2) (.t 8) (.t 18), none, []⟩, ⟨(some 9), .mv (.t 19), none, []⟩, ⟨(some 10), .mv (.t 20), none, []⟩]) 
  (.seq (.region [⟨(some 21), .load (some 2) (.t 8), none, []⟩, ⟨(some 22), .mv (.t 10), none, []⟩, ⟨none, .store (some 2) (.t 6) (.t 21), none, []⟩, ⟨(some 7), .mv (.t 22), none, []⟩]) .ret))))⟩
def c65 : AFunc := ⟨2, 21, [(4, none)], (some 
  (.seq (.region [⟨(some 2), .box (.t 0), none, []⟩, ⟨(some 3), .box (.t 1), none, []⟩, ⟨(some 4), .mv (.c (.b false)), none, []⟩]) 
  (.seq (.draw [⟨(some 5), .load (some 4) (.t 3), none, []⟩, ⟨(some 6), .call (.fn 95) [(.t 5)], none, []⟩, ⟨(some 7), .mv (.t 6), none, []⟩, ⟨(some 8), .load (some 4) (.t 3), (some (7, true)), []⟩, ⟨(some 10), .fieldAddr 1 none (.t 2), (some (7, true)), []⟩, ⟨(some 11), .load none (.t 10), (some (7, true)), [14]⟩, ⟨(some 9), .call (.fn 20) [(.t 8)], (some (7, true)), []⟩, ⟨(some 12), .bin .andNot (.t 9) (.t 11), (some (7, true)), []⟩, ⟨(some 13), .bin .eql (.t 12) (.c (.i .u32 0)), (some (7, true)), []⟩, ⟨(some 14), .pick (.t 7) (.t 13) (.c (.b false)), none, []⟩, ⟨(some 15), .mv (.t 14), none, []⟩, ⟨(some 16), .fieldAddr 2 none (.t 2), (some (15, true)), []⟩, ⟨(some 17), .load none (.t 16), (some (15, true)), []⟩, ⟨(some 18), .load (some 4) (.t 3), (some (15, true)), []⟩, ⟨(some 19), .call (.fn 96) [(.t 17), (.t 18)], (some (15, true)), []⟩, ⟨(some 20), .pick (.t 15) (.t 19) (.c (.b false)), none, []⟩, ⟨(some 4), .mv (.t 20), none, []⟩]) .ret)))⟩
def c66 : AFunc := ⟨1, 13, [(2, (some (some 4)))], (some 
  (.seq (.region [⟨(some 2), .alloc (.ag [(.i .u8 0), (.s []), .nilsl, .nilsl]), none, []⟩]) 
  (.seq (.region [⟨(some 7), .mv (.t 0), none, []⟩, ⟨(some 8), .call (.fn 97) [(.t 7)], none, []⟩, ⟨(some 6), .mv (.t 8), none, []⟩, ⟨(some 9), .extract (.t 6) 0, none, []⟩, ⟨(some 10), .extract (.t 6) 1, none, []⟩, ⟨(some 11), .extract (.t 6) 2, none, []⟩, ⟨(some 3), .alloc (.ag [(.i .u8 0), (.s []), .nilsl, .nilsl]), none, []⟩, ⟨none, .store (some 4) (.t 3) (.t 9), none, []⟩, ⟨(some 4), .mv (.t 10), none, []⟩, ⟨(some 5), .mv (.t 11), none, []⟩]) 
  (.seq (.region [⟨(some 12), .load (some 4) (.t 3), none, []⟩, ⟨none, .store (some 4) (.t 2) (.t 12), none, []⟩]) .ret))))⟩
def c67 : AFunc := ⟨1, 4, [(2, none)], (some 
  (.seq (.region [⟨(some 1), .box (.t 0), none, []⟩, ⟨(some 2), .mv (.c .nf), none, []⟩]) 
  (.seq (.region [⟨(some 3), .mkFunc (.func 98) [] [(.t 1)], none, []⟩, ⟨(some 2), .mv (.t 3), none, []⟩]) .ret)))⟩
def c68 : AFunc := ⟨1, 60, [(2, (some (some 7)))], (some 
  (.seq (.region [⟨(some 2), .alloc (.ag [.nilsl, (.i .u8 0), (.s []), .nilsl, .nilsl, (.s []), (.b false)]), none, []⟩]) 
  (.seq (.region [⟨(some 3), .alloc (.ag [.nilsl, (.i .u8 0), (.s []), .nilsl, .nilsl, (.s []), (.b false)]), none, []⟩]) 
  (.seq (.region [⟨(some 13), .mv (.t 0), none, []⟩, ⟨(some 14), .call (.fn 100) [(.t 13), (.c (.s [99, 108, 111, 115, 101, 100, 32]))], none, []⟩, ⟨(some 12), .mv (.t 14), none, []⟩, ⟨(some 15), .extract (.t 12) 0, none, []⟩, ⟨(some 16), .extract (.t 12) 1, none, []⟩, ⟨(some 0), .mv (.t 15), none, []⟩, ⟨(some 17), .fieldAddr 6 none (.t 3), none, []⟩, ⟨none, .store none (.t 17) (.t 16), none, []⟩]) 
  (.seq 
  (.seq (.region [⟨(some 19), .mv (.t 0), none, []⟩, ⟨(some 20), .call (.fn 100) [(.t 19), (.c (.s [102, 114, 101, 115, 104, 32]))], none, []⟩, ⟨(some 18), .mv (.t 20), none, []⟩, ⟨(some 21), .extract (.t 18) 0, none, []⟩, ⟨(some 22), .extract (.t 18) 1, none, []⟩, ⟨(some 4), .mv (.t 21), none, []⟩, ⟨(some 5), .mv (.t 22), none, []⟩]) 
  (.seq (.region [⟨(some 23), .mv (.t 5), none, []⟩]) (.cond (.t 23) (.region [⟨(some 25), .mv (.t 4), none, []⟩, ⟨(some 26), .call (.fn 101) [(.t 25), (.c (.s [32]))], none, []⟩, ⟨(some 24), .mv (.t 26), none, []⟩, ⟨(some 27), .extract (.t 24) 0, none, []⟩, ⟨(some 28), .extract (.t 24) 1, none, []⟩, ⟨(some 29), .extract (.t 24) 2, none, []⟩, ⟨(some 30), .fieldAddr 5 none (.t 3), none, []⟩, ⟨none, .store none (.t 30) (.t 27), none, []⟩, ⟨(some 0), .mv (.t 28), none, []⟩]) .skip))) 
  (.seq 
  (.seq (.region [⟨(some 32), .mv (.t 0), none, []⟩, ⟨(some 33), .call (.fn 100) [(.t 32), (.c (.s [123]))], none, []⟩, ⟨(some 31), .mv (.t 33), none, []⟩, ⟨(some 34), .extract (.t 31) 0, none, []⟩, ⟨(some 35), .extract (.t 31) 1, none, []⟩, ⟨(some 6), .mv (.t 34), none, []⟩, ⟨(some 7), .mv (.t 35), none, []⟩]) 
  (.seq (.region [⟨(some 36), .mv (.t 7), none, []⟩]) (.cond (.t 36) 
  (.seq (.region [⟨(some 38), .mv (.t 6), none, []⟩, ⟨(some 39), .call (.fn 101) [(.t 38), (.c (.s [125]))], none, []⟩, ⟨(some 37), .mv (.t 39), none, []⟩, ⟨(some 40), .extract (.t 37) 0, none, []⟩, ⟨(some 41), .extract (.t 37) 1, none, []⟩, ⟨(some 42), .extract (.t 37) 2, none, []⟩, ⟨(some 8), .mv (.t 40), none, []⟩, ⟨(some 9), .mv (.t 41), none, []⟩, ⟨(some 10), .mv (.t 42), none, []⟩]) 
  (.seq 
  (.seq (.region [⟨(some 43), .mv (.t 8), none, []⟩, ⟨(some 44), .call (.fn 102) [(.t 43), (.c (.s [59]))], none, []⟩]) (.block 0 (.rangeFunc (.t 44) [45] (.region [⟨(some 11), .mv (.t 45), none, []⟩]) (.block 1 (.draw [⟨(some 46), .fieldAddr 0 none (.t 3), none, []⟩, ⟨(some 47), .load none (.t 46), none, [5, 6]⟩, ⟨(some 48), .mv (.t 11), none, []⟩, ⟨(some 50), .len 1 (.t 47), none, [5, 6]⟩, ⟨(some 51), .buildSlice (some 4) 1 [(.i .u8 0), (.s []), .nilsl, .nilsl] [(0, (.c (.ag [(.i .u8 0), (.s []), .nilsl, .nilsl])))], none, []⟩, ⟨(some 49), .call (.fn 66) [(.t 48)], none, []⟩, ⟨(some 52), .append (some 4) 72 (.t 47) (.t 51), none, []⟩, ⟨(some 53), .idxSl (some 4) (.t 52) (.t 50), none, []⟩, ⟨(some 54), .fieldAddr 0 none (.t 3), none, []⟩, ⟨none, .store (some 4) (.t 53) (.t 49), none, []⟩, ⟨none, .store none (.t 54) (.t 52), none, [9]⟩]))))) (.region [⟨(some 55), .mv (.t 9), none, []⟩, ⟨(some 0), .mv (.t 55), none, []⟩]))) .skip))) 
  (.seq (.region [⟨(some 56), .mv (.t 0), none, []⟩, ⟨(some 57), .call (.fn 66) [(.t 56)], none, []⟩, ⟨(some 58), .fieldAddr 1 (some 4) (.t 3), none, []⟩, ⟨none, .store (some 4) (.t 58) (.t 57), none, []⟩]) 
  (.seq (.region [⟨(some 59), .load (some 7) (.t 3), none, []⟩, ⟨none, .store (some 7) (.t 2) (.t 59), none, []⟩]) .ret))))))))⟩
def c80 : AFunc := ⟨1, 14, [(2, (some (some 4)))], (some 
  (.seq (.region [⟨(some 1), .box (.t 0), none, []⟩, ⟨(some 2), .alloc (.ag [(.i .u8 0), (.s []), .nilsl, .nilsl]), none, []⟩]) 
  (.seq (.draw [⟨(some 3), .fieldAddr 0 none (.t 1), none, []⟩, ⟨(some 4), .load none (.t 3), none, [9, 11]⟩, ⟨(some 5), .fieldAddr 1 none (.t 1), none, []⟩, ⟨(some 6), .load none (.t 5), none, [9, 11]⟩, ⟨(some 7), .fieldAddr 2 none (.t 1), none, []⟩, ⟨(some 8), .load none (.t 7), none, []⟩, ⟨(some 10), .fieldAddr 3 none (.t 1), none, []⟩, ⟨(some 11), .load none (.t 10), none, [9]⟩, ⟨(some 9), .call (.fn 106) [(.t 8), (.c (.f (.func 107) [] []))], none, []⟩, ⟨(some 12), .call (.fn 108) [(.t 11), (.c (.f (.func 80) [] []))], none, []⟩, ⟨(some 13), .build [(.i .u8 0), (.s []), .nilsl, .nilsl] [(0, 1, (.t 4)), (1, 1, (.t 6)), (2, 1, (.t 9)), (3, 1, (.t 12))], none, []⟩, ⟨none, .store (some 4) (.t 2) (.t 13), none, []⟩]) .ret)))⟩
def c81 : AFunc := ⟨1, 30, [(2, (some (some 7)))], (some 
  (.seq (.region [⟨(some 1), .box (.t 0), none, []⟩, ⟨(some 2), .alloc (.ag [.nilsl, (.i .u8 0), (.s []), .nilsl, .nilsl, (.s []), (.b false)]), none, []⟩]) 
  (.seq (.draw [⟨(some 6), .fieldAddr 1 (some 4) (.t 1), none, []⟩, ⟨(some 7), .load (some 4) (.t 6), none, [7]⟩, ⟨(some 9), .fieldAddr 5 none (.t 1), none, []⟩, ⟨(some 10), .load none (.t 9), none, [7, 9]⟩, ⟨(some 11), .fieldAddr 6 none (.t 1), none, []⟩, ⟨(some 12), .load none (.t 11), none, [7, 9]⟩, ⟨(some 3), .alloc (.ag [.nilsl, (.i .u8 0), (.s []), .nilsl, .nilsl, (.s []), (.b false)]), none, []⟩, ⟨(some 8), .call (.fn 80) [(.t 7)], none, []⟩, ⟨(some 13), .build [.nilsl, (.i .u8 0), (.s []), .nilsl, .nilsl, (.s []), (.b false)] [(1, 4, (.t 8)), (5, 1, (.t 10)), (6, 1, (.t 12))], none, []⟩, ⟨none, .store (some 7) (.t 3) (.t 13), none, []⟩]) 
  (.seq 
  (.seq (.region [⟨(some 14), .fieldAddr 0 none (.t 1), none, []⟩, ⟨(some 15), .load none (.t 14), none, []⟩, ⟨(some 16), .len 1 (.t 15), none, []⟩, ⟨(some 17), .mv (.c (.i .i64 0)), none, []⟩]) (.block 0 (.loop 
  (.seq (.region [⟨(some 18), .bin .lss (.t 17) (.t 16), none, []⟩]) 
  (.seq (.cond (.t 18) .skip (.exit 0)) 
  (.seq (.block 1 
  (.seq (.region [⟨(some 19), .idxSl (some 4) (.t 15) (.t 17), none, []⟩, ⟨(some 20), .load (some 4) (.t 19), none, []⟩, ⟨(some 5), .alloc (.ag [(.i .u8 0), (.s []), .nilsl, .nilsl]), none, []⟩, ⟨none, .store (some 4) (.t 5) (.t 20), none, []⟩]) (.draw [⟨(some 21), .fieldAddr 0 none (.t 3), none, []⟩, ⟨(some 22), .load none (.t 21), none, [5]⟩, ⟨(some 23), .load (some 4) (.t 5), none, []⟩, ⟨(some 24), .call (.fn 80) [(.t 23)], none, []⟩, ⟨(some 25), .buildSlice (some 4) 1 [(.i .u8 0), (.s []), .nilsl, .nilsl] [(0, (.t 24))], none, []⟩, ⟨(some 26), .append (some 4) 72 (.t 22) (.t 25), none, []⟩, ⟨(some 27), .fieldAddr 0 none (.t 3), none, []⟩, ⟨none, .store none (.t 27) (.t 26), none, []⟩]))) (.region [⟨(some 28), .bin .add (.t 17) (.c (.i .i64 1)), none, []⟩, ⟨(some 17), .mv (.t 28), none, []⟩]))))))) 
  (.seq (.region [⟨(some 29), .load (some 7) (.t 3), none, []⟩, ⟨none, .store (some 7) (.t 2) (.t 29), none, []⟩]) .ret)))))⟩
def c82 : AFunc := ⟨1, 11, [(2, none)], (some 
  (.seq (.region [⟨(some 1), .box (.t 0), none, []⟩, ⟨(some 2), .mv (.c .nilsl), none, []⟩]) 
  (.seq (.region [⟨(some 4), .mkMap, none, []⟩, ⟨(some 3), .mv (.t 4), none, []⟩]) 
  (.seq (.region [⟨(some 5), .load (some 4) (.t 1), none, []⟩, ⟨(some 6), .mv (.t 3), none, []⟩, ⟨(some 7), .call (.fn 109) [(.t 5), (.t 6)], none, []⟩]) 
  (.seq (.region [⟨(some 8), .mv (.t 3), none, []⟩, ⟨(some 9), .call (.fn 111) [(.t 8)], none, []⟩, ⟨(some 10), .call (.fn 110) [(.t 9)], none, []⟩, ⟨(some 2), .mv (.t 10), none, []⟩]) .ret)))))⟩
def c85 : AFunc := ⟨2, 31, [(4, none)], (some 
  (.seq (.region [⟨(some 2), .box (.t 0), none, []⟩, ⟨(some 3), .box (.t 1), none, []⟩, ⟨(some 4), .mv (.c (.b false)), none, []⟩]) 
  (.seq (.region [⟨(some 5), .fieldAddr 0 none (.t 2), none, []⟩, ⟨(some 6), .load none (.t 5), none, []⟩, ⟨(some 7), .fieldAddr 0 none (.t 3), none, []⟩, ⟨(some 8), .load none (.t 7), none, []⟩, ⟨(some 9), .call (.fn 87) [(.t 6), (.t 8)], none, []⟩, ⟨(some 10), .mv (.t 9), none, []⟩, ⟨(some 11), .fieldAddr 1 (some 4) (.t 2), (some (10, true)), []⟩, ⟨(some 12), .load (some 4) (.t 11), (some (10, true)), []⟩, ⟨(some 13), .fieldAddr 1 (some 4) (.t 3), (some (10, true)), []⟩, ⟨(some 14), .load (some 4) (.t 13), (some (10, true)), []⟩, ⟨(some 15), .call (.fn 56) [(.t 12), (.t 14)], (some (10, true)), []⟩, ⟨(some 16), .pick (.t 10) (.t 15) (.c (.b false)), none, []⟩, ⟨(some 17), .mv (.t 16), none, []⟩, ⟨(some 18), .fieldAddr 5 none (.t 2), (some (17, true)), []⟩, ⟨(some 19), .load none (.t 18), (some (17, true)), []⟩, ⟨(some 20), .fieldAddr 5 none (.t 3), (some (17, true)), []⟩, ⟨(some 21), .load none (.t 20), (some (17, true)), []⟩, ⟨(some 22), .bin .eql (.t 19) (.t 21), (some (17, true)), []⟩, ⟨(some 23), .pick (.t 17) (.t 22) (.c (.b false)), none, []⟩, ⟨(some 24), .mv (.t 23), none, []⟩, ⟨(some 25), .fieldAddr 6 none (.t 2), (some (24, true)), []⟩, ⟨(some 26), .load none (.t 25), (some (24, true)), []⟩, ⟨(some 27), .fieldAddr 6 none (.t 3), (some (24, true)), []⟩, ⟨(some 28), .load none (.t 27), (some (24, true)), []⟩, ⟨(some 29), .binB false (.t 26) (.t 28), (some (24, true)), []⟩, ⟨(some 30), .pick (.t 24) (.t 29) (.c (.b false)), none, []⟩, ⟨(some 4), .mv (.t 30), none, []⟩]) .ret)))⟩
def c86 : AFunc := ⟨2, 27, [(4, none)], (some 
  (.seq (.region [⟨(some 4), .mv (.c (.b false)), none, []⟩]) 
  (.seq 
  (.seq (.region [⟨(some 6), .mv (.t 0), none, []⟩, ⟨(some 7), .len 1 (.t 6), none, []⟩, ⟨(some 8), .mv (.t 1), none, []⟩, ⟨(some 9), .len 1 (.t 8), none, []⟩, ⟨(some 10), .bin .neq (.t 7) (.t 9), none, []⟩]) (.cond (.t 10) 
  (.seq (.region [⟨(some 4), .mv (.c (.b false)), none, []⟩]) .ret) .skip)) 
  (.seq 
  (.seq (.region [⟨(some 5), .mv (.c (.i .i64 0)), none, []⟩]) (.block 0 (.loop 
  (.seq 
  (.seq (.region [⟨(some 11), .mv (.t 5), none, []⟩, ⟨(some 12), .mv (.t 0), none, []⟩, ⟨(some 13), .len 1 (.t 12), none, []⟩, ⟨(some 14), .bin .lss (.t 11) (.t 13), none, []⟩]) (.cond (.t 14) .skip (.exit 0))) 
  (.seq (.block 1 
  (.seq (.draw [⟨(some 17), .mv (.t 0), none, []⟩, ⟨(some 18), .mv (.t 5), none, []⟩, ⟨(some 19), .idxSl (some 3) (.t 17) (.t 18), none, []⟩, ⟨(some 20), .load (some 3) (.t 19), none, []⟩, ⟨(some 21), .mv (.t 1), none, []⟩, ⟨(some 22), .mv (.t 5), none, []⟩, ⟨(some 23), .idxSl (some 3) (.t 21) (.t 22), none, []⟩, ⟨(some 24), .load (some 3) (.t 23), none, []⟩, ⟨(some 25), .call (.fn 113) [(.t 20), (.t 24)], none, []⟩, ⟨(some 26), .not (.t 25), none, []⟩]) (.cond (.t 26) 
  (.seq (.region [⟨(some 4), .mv (.c (.b false)), none, []⟩]) .ret) .skip))) (.region [⟨(some 15), .mv (.t 5), none, []⟩, ⟨(some 16), .bin .add (.t 15) (.c (.i .i64 1)), none, []⟩, ⟨(some 5), .mv (.t 16), none, []⟩])))))) 
  (.seq (.region [⟨(some 4), .mv (.c (.b true)), none, []⟩]) .ret)))))⟩
def c87 : AFunc := ⟨2, 27, [(4, none)], (some 
  (.seq (.region [⟨(some 4), .mv (.c (.b false)), none, []⟩]) 
  (.seq 
  (.seq (.region [⟨(some 6), .mv (.t 0), none, []⟩, ⟨(some 7), .len 1 (.t 6), none, []⟩, ⟨(some 8), .mv (.t 1), none, []⟩, ⟨(some 9), .len 1 (.t 8), none, []⟩, ⟨(some 10), .bin .neq (.t 7) (.t 9), none, []⟩]) (.cond (.t 10) 
  (.seq (.region [⟨(some 4), .mv (.c (.b false)), none, []⟩]) .ret) .skip)) 
  (.seq 
  (.seq (.region [⟨(some 5), .mv (.c (.i .i64 0)), none, []⟩]) (.block 0 (.loop 
  (.seq 
  (.seq (.region [⟨(some 11), .mv (.t 5), none, []⟩, ⟨(some 12), .mv (.t 0), none, []⟩, ⟨(some 13), .len 1 (.t 12), none, []⟩, ⟨(some 14), .bin .lss (.t 11) (.t 13), none, []⟩]) (.cond (.t 14) .skip (.exit 0))) 
  (.seq (.block 1 
  (.seq (.draw [⟨(some 17), .mv (.t 0), none, []⟩, ⟨(some 18), .mv (.t 5), none, []⟩, ⟨(some 19), .idxSl (some 4) (.t 17) (.t 18), none, []⟩, ⟨(some 20), .load (some 4) (.t 19), none, []⟩, ⟨(some 21), .mv (.t 1), none, []⟩, ⟨(some 22), .mv (.t 5), none, []⟩, ⟨(some 23), .idxSl (some 4) (.t 21) (.t 22), none, []⟩, ⟨(some 24), .load (some 4) (.t 23), none, []⟩, ⟨(some 25), .call (.fn 56) [(.t 20), (.t 24)], none, []⟩, ⟨(some 26), .not (.t 25), none, []⟩]) (.cond (.t 26) 
  (.seq (.region [⟨(some 4), .mv (.c (.b false)), none, []⟩]) .ret) .skip))) (.region [⟨(some 15), .mv (.t 5), none, []⟩, ⟨(some 16), .bin .add (.t 15) (.c (.i .i64 1)), none, []⟩, ⟨(some 5), .mv (.t 16), none, []⟩])))))) 
  (.seq (.region [⟨(some 4), .mv (.c (.b true)), none, []⟩]) .ret)))))⟩
def c88 : AFunc := ⟨3, 90, [(6, none)], (some 
  (.seq (.region [⟨(some 4), .box (.t 1), none, []⟩, ⟨(some 6), .mv (.c (.b false)), none, []⟩]) 
  (.seq 
  (.seq (.region [⟨(some 10), .mv (.t 0), none, []⟩, ⟨(some 11), .mv (.t 2), none, []⟩, ⟨(some 12), .call (.fn 114) [(.t 10), (.t 11)], none, []⟩, ⟨(some 13), .not (.t 12), none, []⟩, ⟨(some 14), .mv (.t 13), none, []⟩, ⟨(some 15), .fieldAddr 0 none (.t 4), (some (14, false)), []⟩, ⟨(some 16), .load none (.t 15), (some (14, false)), []⟩, ⟨(some 17), .conv .i64 (.t 16), (some (14, false)), []⟩, ⟨(some 18), .bin .geq (.t 17) (.c (.i .i64 17)), (some (14, false)), []⟩, ⟨(some 19), .pick (.t 14) (.c (.b true)) (.t 18), none, []⟩]) (.cond (.t 19) 
  (.seq (.region [⟨(some 6), .mv (.c (.b false)), none, []⟩]) .ret) .skip)) 
  (.seq (.region [⟨(some 20), .fieldAddr 0 none (.t 4), none, []⟩, ⟨(some 21), .load none (.t 20), none, []⟩, ⟨(some 22), .idxArr 17 (some 5) (.g 0) (.t 21), none, []⟩, ⟨(some 23), .load (some 5) (.t 22), none, []⟩, ⟨(some 7), .alloc (.ag [(.b false), (.b false), (.i .u8 0), (.i .i64 0), (.i .i64 0)]), none, []⟩, ⟨none, .store (some 5) (.t 7) (.t 23), none, []⟩]) 
  (.seq 
  (.seq (.region [⟨(some 24), .fieldAddr 0 none (.t 7), none, []⟩, ⟨(some 25), .load none (.t 24), none, []⟩, ⟨(some 26), .not (.t 25), none, []⟩, ⟨(some 27), .mv (.t 26), none, []⟩, ⟨(some 28), .mv (.t 0), (some (27, true)), []⟩, ⟨(some 29), .nilCheck (.t 28), (some (27, true)), []⟩, ⟨(some 30), .fieldAddr 0 none (.t 29), (some (27, true)), []⟩, ⟨(some 31), .load none (.t 30), (some (27, true)), []⟩, ⟨(some 32), .mv (.t 31), (some (27, true)), []⟩, ⟨(some 33), .fieldAddr 1 none (.t 7), (some (32, true)), []⟩, ⟨(some 34), .load none (.t 33), (some (32, true)), []⟩, ⟨(some 35), .pick (.t 32) (.t 34) (.c (.b false)), (some (27, true)), []⟩, ⟨(some 36), .not (.t 35), (some (27, true)), []⟩, ⟨(some 37), .pick (.t 27) (.t 36) (.c (.b false)), none, []⟩]) (.cond (.t 37) 
  (.seq (.region [⟨(some 6), .mv (.c (.b false)), none, []⟩]) .ret) .skip)) 
  (.seq 
  (.seq (.region [⟨(some 38), .fieldAddr 2 none (.t 7), none, []⟩, ⟨(some 39), .load none (.t 38), none, []⟩, ⟨(some 40), .fieldAddr 1 none (.t 4), none, []⟩, ⟨(some 41), .load none (.t 40), none, []⟩, ⟨(some 42), .call (.fn 115) [(.t 39), (.t 41)], none, []⟩, ⟨(some 43), .not (.t 42), none, []⟩, ⟨(some 44), .mv (.t 43), none, []⟩, ⟨(some 45), .fieldAddr 2 none (.t 4), (some (44, false)), []⟩, ⟨(some 46), .load none (.t 45), (some (44, false)), []⟩, ⟨(some 47), .len 1 (.t 46), (some (44, false)), []⟩, ⟨(some 48), .fieldAddr 3 none (.t 7), (some (44, false)), []⟩, ⟨(some 49), .load none (.t 48), (some (44, false)), []⟩, ⟨(some 50), .bin .gtr (.t 47) (.t 49), (some (44, false)), []⟩, ⟨(some 51), .pick (.t 44) (.c (.b true)) (.t 50), none, []⟩, ⟨(some 52), .mv (.t 51), none, []⟩, ⟨(some 53), .fieldAddr 3 none (.t 4), (some (52, false)), []⟩, ⟨(some 54), .load none (.t 53), (some (52, false)), []⟩, ⟨(some 55), .len 1 (.t 54), (some (52, false)), []⟩, ⟨(some 56), .fieldAddr 4 none (.t 7), (some (52, false)), []⟩, ⟨(some 57), .load none (.t 56), (some (52, false)), []⟩, ⟨(some 58), .bin .neq (.t 55) (.t 57), (some (52, false)), []⟩, ⟨(some 59), .pick (.t 52) (.c (.b true)) (.t 58), none, []⟩]) (.cond (.t 59) 
  (.seq (.region [⟨(some 6), .mv (.c (.b false)), none, []⟩]) .ret) .skip)) 
  (.seq 
  (.seq (.region [⟨(some 60), .fieldAddr 0 none (.t 4), none, []⟩, ⟨(some 61), .load none (.t 60), none, []⟩, ⟨(some 62), .bin .eql (.t 61) (.c (.i .u8 16)), none, []⟩, ⟨(some 63), .mv (.t 62), none, []⟩, ⟨(some 64), .fieldAddr 2 none (.t 4), (some (63, true)), []⟩, ⟨(some 65), .load none (.t 64), (some (63, true)), []⟩, ⟨(some 66), .call (.fn 116) [(.t 65)], (some (63, true)), []⟩, ⟨(some 67), .not (.t 66), (some (63, true)), []⟩, ⟨(some 68), .pick (.t 63) (.t 67) (.c (.b false)), none, []⟩]) (.cond (.t 68) 
  (.seq (.region [⟨(some 6), .mv (.c (.b false)), none, []⟩]) .ret) .skip)) 
  (.seq 
  (.seq (.region [⟨(some 69), .mv (.t 0), none, []⟩, ⟨(some 70), .fieldAddr 2 none (.t 4), none, []⟩, ⟨(some 71), .load none (.t 70), none, []⟩, ⟨(some 72), .mv (.t 2), none, []⟩, ⟨(some 73), .bin .add (.t 72) (.c (.i .i64 1)), none, []⟩, ⟨(some 74), .call (.fn 117) [(.t 69), (.t 71), (.t 73)], none, []⟩, ⟨(some 75), .not (.t 74), none, []⟩]) (.cond (.t 75) 
  (.seq (.region [⟨(some 6), .mv (.c (.b false)), none, []⟩]) .ret) .skip)) 
  (.seq 
  (.seq (.region [⟨(some 76), .fieldAddr 3 none (.t 4), none, []⟩, ⟨(some 77), .load none (.t 76), none, []⟩, ⟨(some 78), .len 1 (.t 77), none, []⟩, ⟨(some 79), .mv (.c (.i .i64 0)), none, []⟩]) (.block 0 (.loop 
  (.seq (.region [⟨(some 80), .bin .lss (.t 79) (.t 78), none, []⟩]) 
  (.seq (.cond (.t 80) .skip (.exit 0)) 
  (.seq (.block 1 
  (.seq (.region [⟨(some 81), .idxSl (some 4) (.t 77) (.t 79), none, []⟩, ⟨(some 82), .load (some 4) (.t 81), none, []⟩, ⟨(some 9), .alloc (.ag [(.i .u8 0), (.s []), .nilsl, .nilsl]), none, []⟩, ⟨none, .store (some 4) (.t 9) (.t 82), none, []⟩]) 
  (.seq (.region [⟨(some 83), .mv (.t 0), none, []⟩, ⟨(some 84), .load (some 4) (.t 9), none, []⟩, ⟨(some 85), .mv (.t 2), none, []⟩, ⟨(some 86), .bin .add (.t 85) (.c (.i .i64 1)), none, []⟩, ⟨(some 87), .call (.fn 88) [(.t 83), (.t 84), (.t 86)], none, []⟩, ⟨(some 88), .not (.t 87), none, []⟩]) (.cond (.t 88) 
  (.seq (.region [⟨(some 6), .mv (.c (.b false)), none, []⟩]) .ret) .skip)))) (.region [⟨(some 89), .bin .add (.t 79) (.c (.i .i64 1)), none, []⟩, ⟨(some 79), .mv (.t 89), none, []⟩]))))))) 
  (.seq (.region [⟨(some 6), .mv (.c (.b true)), none, []⟩]) .ret))))))))))⟩
def c89 : AFunc := ⟨2, 22, [], (some 
  (.seq 
  (.seq (.region [⟨(some 5), .mv (.t 0), none, []⟩, ⟨(some 6), .fieldAddr 1 (some 4) (.t 1), none, []⟩, ⟨(some 7), .load (some 4) (.t 6), none, []⟩, ⟨(some 8), .call (.val (.t 5)) [(.t 7)], none, []⟩, ⟨(some 9), .not (.t 8), none, []⟩]) (.cond (.t 9) .ret .skip)) 
  (.seq (.region [⟨(some 10), .fieldAddr 0 none (.t 1), none, []⟩, ⟨(some 11), .load none (.t 10), none, []⟩, ⟨(some 12), .len 1 (.t 11), none, []⟩, ⟨(some 13), .mv (.c (.i .i64 0)), none, []⟩]) (.block 0 (.loop 
  (.seq (.region [⟨(some 14), .bin .lss (.t 13) (.t 12), none, []⟩]) 
  (.seq (.cond (.t 14) .skip (.exit 0)) 
  (.seq (.block 1 
  (.seq (.region [⟨(some 15), .idxSl (some 4) (.t 11) (.t 13), none, []⟩, ⟨(some 16), .load (some 4) (.t 15), none, []⟩, ⟨(some 4), .alloc (.ag [(.i .u8 0), (.s []), .nilsl, .nilsl]), none, []⟩, ⟨none, .store (some 4) (.t 4) (.t 16), none, []⟩]) 
  (.seq (.region [⟨(some 17), .mv (.t 0), none, []⟩, ⟨(some 18), .load (some 4) (.t 4), none, []⟩, ⟨(some 19), .call (.val (.t 17)) [(.t 18)], none, []⟩, ⟨(some 20), .not (.t 19), none, []⟩]) (.cond (.t 20) .ret .skip)))) (.region [⟨(some 21), .bin .add (.t 13) (.c (.i .i64 1)), none, []⟩, ⟨(some 13), .mv (.t 21), none, []⟩])))))))))⟩
def c90 : AFunc := ⟨2, 21, [(4, none)], (some 
  (.seq (.region [⟨(some 2), .box (.t 0), none, []⟩, ⟨(some 3), .box (.t 1), none, []⟩, ⟨(some 4), .mv (.c (.b false)), none, []⟩]) 
  (.seq 
  (.seq (.draw [⟨(some 5), .fieldAddr 0 none (.t 2), none, []⟩, ⟨(some 6), .load none (.t 5), none, []⟩, ⟨(some 7), .bin .eql (.t 6) (.c (.i .u8 16)), none, []⟩, ⟨(some 8), .mv (.t 7), none, []⟩, ⟨(some 9), .fieldAddr 2 none (.t 2), (some (8, true)), []⟩, ⟨(some 10), .load none (.t 9), (some (8, true)), []⟩, ⟨(some 11), .idxSl (some 3) (.t 10) (.c (.i .i64 1)), (some (8, true)), []⟩, ⟨(some 12), .fieldAddr 1 none (.t 11), (some (8, true)), []⟩, ⟨(some 13), .load none (.t 12), (some (8, true)), []⟩, ⟨(some 14), .load none (.t 3), (some (8, true)), []⟩, ⟨(some 15), .bin .eql (.t 13) (.t 14), (some (8, true)), []⟩, ⟨(some 16), .pick (.t 8) (.t 15) (.c (.b false)), none, []⟩]) (.cond (.t 16) 
  (.seq (.region [⟨(some 4), .mv (.c (.b true)), none, []⟩]) .ret) .skip)) 
  (.seq (.region [⟨(some 17), .fieldAddr 3 none (.t 2), none, []⟩, ⟨(some 18), .load none (.t 17), none, []⟩, ⟨(some 19), .mkFunc (.func 119) [] [(.t 3)], none, []⟩, ⟨(some 20), .call (.fn 118) [(.t 18), (.t 19)], none, []⟩, ⟨(some 4), .mv (.t 20), none, []⟩]) .ret))))⟩
def c91 : AFunc := ⟨1, 6, [(2, none)], (some 
  (.seq (.region [⟨(some 2), .mv (.c (.b false)), none, []⟩]) 
  (.seq (.region [⟨(some 3), .call (.fn 120) [(.c (.f (.func 121) [] [])), (.c (.f (.func 122) [] []))], none, []⟩, ⟨(some 4), .mv (.t 0), none, []⟩, ⟨(some 5), .call (.val (.t 3)) [(.t 4)], none, []⟩, ⟨(some 2), .mv (.t 5), none, []⟩]) .ret)))⟩
def c92 : AFunc := ⟨2, 6, [], (some (.region [⟨(some 3), .load (some 4) (.t 1), none, []⟩, ⟨(some 4), .mv (.t 0), none, []⟩, ⟨(some 5), .call (.fn 93) [(.t 3), (.t 4)], none, []⟩]))⟩
def c93 : AFunc := ⟨2, 23, [(4, none)], (some 
  (.seq (.region [⟨(some 2), .box (.t 0), none, []⟩, ⟨(some 4), .mv (.c (.b false)), none, []⟩]) 
  (.seq 
  (.seq (.region [⟨(some 7), .mv (.t 1), none, []⟩, ⟨(some 8), .load (some 4) (.t 2), none, []⟩, ⟨(some 9), .call (.val (.t 7)) [(.t 8)], none, []⟩, ⟨(some 10), .not (.t 9), none, []⟩]) (.cond (.t 10) 
  (.seq (.region [⟨(some 4), .mv (.c (.b false)), none, []⟩]) .ret) .skip)) 
  (.seq 
  (.seq (.region [⟨(some 11), .fieldAddr 3 none (.t 2), none, []⟩, ⟨(some 12), .load none (.t 11), none, []⟩, ⟨(some 13), .len 1 (.t 12), none, []⟩, ⟨(some 14), .mv (.c (.i .i64 0)), none, []⟩]) (.block 0 (.loop 
  (.seq (.region [⟨(some 15), .bin .lss (.t 14) (.t 13), none, []⟩]) 
  (.seq (.cond (.t 15) .skip (.exit 0)) 
  (.seq (.block 1 
  (.seq (.region [⟨(some 16), .idxSl (some 4) (.t 12) (.t 14), none, []⟩, ⟨(some 17), .load (some 4) (.t 16), none, []⟩, ⟨(some 6), .alloc (.ag [(.i .u8 0), (.s []), .nilsl, .nilsl]), none, []⟩, ⟨none, .store (some 4) (.t 6) (.t 17), none, []⟩]) 
  (.seq (.region [⟨(some 18), .load (some 4) (.t 6), none, []⟩, ⟨(some 19), .mv (.t 1), none, []⟩, ⟨(some 20), .call (.fn 93) [(.t 18), (.t 19)], none, []⟩, ⟨(some 21), .not (.t 20), none, []⟩]) (.cond (.t 21) 
  (.seq (.region [⟨(some 4), .mv (.c (.b false)), none, []⟩]) .ret) .skip)))) (.region [⟨(some 22), .bin .add (.t 14) (.c (.i .i64 1)), none, []⟩, ⟨(some 14), .mv (.t 22), none, []⟩]))))))) 
  (.seq (.region [⟨(some 4), .mv (.c (.b true)), none, []⟩]) .ret)))))⟩
def c94 : AFunc := ⟨2, 79, [(4, (some (some 2))), (5, none), (6, none)], (some 
  (.seq (.region [⟨(some 3), .box (.t 1), none, []⟩, ⟨(some 4), .alloc (.ag [.nilsl, .nilsl]), none, []⟩, ⟨(some 5), .mv (.c (.i .i64 0)), none, []⟩, ⟨(some 6), .mv (.c (.i .i64 0)), none, []⟩]) (.scope 
  (.seq 
  (.seq (.region [⟨(some 17), .load (some 2) (.t 3), none, []⟩, ⟨(some 18), .call (.fn 123) [(.t 17)], none, []⟩, ⟨(some 19), .not (.t 18), none, []⟩]) (.cond (.t 19) 
  (.seq (.region [⟨(some 20), .build [.nilsl, .nilsl] [], none, []⟩, ⟨none, .store (some 2) (.t 4) (.t 20), none, []⟩, ⟨(some 5), .mv (.c (.i .i64 0)), none, []⟩, ⟨(some 6), .mv (.c (.i .i64 2)), none, []⟩]) .ret) .skip)) 
  (.seq 
  (.seq (.region [⟨(some 21), .mv (.t 0), none, []⟩, ⟨(some 22), .len 1 (.t 21), none, []⟩, ⟨(some 23), .mv (.c (.i .i64 0)), none, []⟩]) (.block 0 (.loop 
  (.seq (.region [⟨(some 24), .bin .lss (.t 23) (.t 22), none, []⟩]) 
  (.seq (.cond (.t 24) .skip (.exit 0)) 
  (.seq (.block 1 
  (.seq (.region [⟨(some 25), .mv (.t 23), none, []⟩, ⟨(some 26), .idxSl (some 8) (.t 21) (.t 23), none, []⟩, ⟨(some 27), .load (some 8) (.t 26), none, []⟩, ⟨(some 8), .alloc (.ag [(.i .u8 0), (.s []), .nilsl, .nilsl, (.i .u8 0), (.s []), .nilsl, .nilsl]), none, []⟩, ⟨(some 7), .mv (.t 25), none, []⟩, ⟨none, .store (some 8) (.t 8) (.t 27), none, []⟩]) 
  (.seq (.region [⟨(some 28), .fieldAddr 0 (some 4) (.t 8), none, []⟩, ⟨(some 29), .load (some 4) (.t 28), none, []⟩, ⟨(some 30), .call (.fn 58) [(.t 29)], none, []⟩, ⟨(some 31), .not (.t 30), none, []⟩, ⟨(some 32), .mv (.t 31), none, []⟩, ⟨(some 33), .fieldAddr 4 (some 4) (.t 8), (some (32, false)), []⟩, ⟨(some 34), .load (some 4) (.t 33), (some (32, false)), []⟩, ⟨(some 35), .call (.fn 95) [(.t 34)], (some (32, false)), []⟩, ⟨(some 36), .not (.t 35), (some (32, false)), []⟩, ⟨(some 37), .pick (.t 32) (.c (.b true)) (.t 36), none, []⟩]) (.cond (.t 37) 
  (.seq (.region [⟨(some 38), .build [.nilsl, .nilsl] [], none, []⟩, ⟨(some 39), .mv (.t 7), none, []⟩, ⟨none, .store (some 2) (.t 4) (.t 38), none, []⟩, ⟨(some 5), .mv (.t 39), none, []⟩, ⟨(some 6), .mv (.c (.i .i64 2)), none, []⟩]) .ret) .skip)))) (.region [⟨(some 40), .bin .add (.t 23) (.c (.i .i64 1)), none, []⟩, ⟨(some 23), .mv (.t 40), none, []⟩]))))))) 
  (.seq (.region [⟨(some 41), .load (some 2) (.t 3), none, []⟩, ⟨(some 42), .call (.fn 124) [(.t 41)], none, []⟩, ⟨(some 9), .mv (.t 42), none, []⟩]) 
  (.seq (.region [⟨(some 10), .alloc (.i .i64 0), none, []⟩, ⟨(some 11), .alloc (.i .i64 0), none, []⟩, ⟨none, .store none (.t 10) (.c (.i .i64 0)), none, []⟩, ⟨none, .store none (.t 11) (.c (.i .i64 0)), none, []⟩]) 
  (.seq .skip 
  (.seq 
  (.seq (.region [⟨(some 43), .mv (.t 9), none, []⟩, ⟨(some 44), .mkFunc (.func 125) [(.t 43)] [], none, []⟩, ⟨(some 45), .mv (.t 9), none, []⟩, ⟨(some 46), .mkFunc (.func 126) [(.t 45)] [], none, []⟩, ⟨(some 47), .build [.nf, .nf] [(0, 1, (.t 44)), (1, 1, (.t 46))], none, []⟩, ⟨(some 48), .mv (.c (.i .i64 0)), none, []⟩]) (.block 2 (.loop 
  (.seq (.region [⟨(some 49), .bin .lss (.t 48) (.c (.i .i64 2)), none, []⟩]) 
  (.seq (.cond (.t 49) .skip (.exit 2)) 
  (.seq (.block 3 
  (.seq (.region [⟨(some 50), .indexAgg 2 none (.t 47) (.t 48), none, []⟩, ⟨(some 13), .alloc .nf, none, []⟩, ⟨none, .store none (.t 13) (.t 50), none, []⟩]) 
  (.seq (.region [⟨(some 51), .mv (.t 0), none, []⟩, ⟨(some 52), .len 1 (.t 51), none, []⟩, ⟨(some 53), .mv (.c (.i .i64 0)), none, []⟩]) (.block 4 (.loop 
  (.seq (.region [⟨(some 54), .bin .lss (.t 53) (.t 52), none, []⟩]) 
  (.seq (.cond (.t 54) .skip (.exit 4)) 
  (.seq (.block 5 
  (.seq (.region [⟨(some 55), .mv (.t 53), none, []⟩, ⟨(some 56), .idxSl (some 8) (.t 51) (.t 53), none, []⟩, ⟨(some 57), .load (some 8) (.t 56), none, []⟩, ⟨(some 14), .alloc (.i .i64 0), none, []⟩, ⟨(some 15), .alloc (.ag [(.i .u8 0), (.s []), .nilsl, .nilsl, (.i .u8 0), (.s []), .nilsl, .nilsl]), none, []⟩, ⟨none, .store none (.t 14) (.t 55), none, []⟩, ⟨none, .store (some 8) (.t 15) (.t 57), none, []⟩]) 
  (.seq (.region [⟨(some 58), .fieldAddr 0 (some 4) (.t 15), none, []⟩, ⟨(some 59), .load (some 4) (.t 58), none, []⟩, ⟨(some 60), .fieldAddr 4 (some 4) (.t 15), none, []⟩, ⟨(some 61), .load (some 4) (.t 60), none, []⟩, ⟨(some 62), .call (.fn 127) [(.t 59), (.t 61)], none, []⟩]) (.block 6 (.rangeFunc (.t 62) [63] (.region [⟨(some 16), .alloc (.ag [(.i .u8 0), (.s []), .nilsl, .nilsl, (.i .u8 0), (.s []), .nilsl, .nilsl, .nilsl]), none, []⟩, ⟨none, .store (some 9) (.t 16) (.t 63), none, []⟩]) (.block 7 
  (.seq (.region [⟨(some 64), .load none (.t 13), none, []⟩, ⟨(some 65), .load (some 9) (.t 16), none, []⟩, ⟨(some 66), .call (.val (.t 64)) [(.t 65)], none, []⟩, ⟨none, .store none (.t 11) (.t 66), none, []⟩]) 
  (.seq (.region [⟨(some 67), .load none (.t 11), none, []⟩, ⟨(some 68), .bin .neq (.t 67) (.c (.i .i64 0)), none, []⟩]) (.cond (.t 68) 
  (.seq (.region [⟨(some 69), .load none (.t 14), none, []⟩, ⟨none, .store none (.t 10) (.t 69), none, []⟩]) (.exit 2)) .skip))))))))) (.region [⟨(some 70), .bin .add (.t 53) (.c (.i .i64 1)), none, []⟩, ⟨(some 53), .mv (.t 70), none, []⟩]))))))))) (.region [⟨(some 71), .bin .add (.t 48) (.c (.i .i64 1)), none, []⟩, ⟨(some 48), .mv (.t 71), none, []⟩]))))))) 
  (.seq 
  (.seq (.region [⟨(some 72), .load none (.t 11), none, []⟩, ⟨(some 73), .bin .neq (.t 72) (.c (.i .i64 0)), none, []⟩]) (.cond (.t 73) 
  (.seq (.draw [⟨(some 74), .build [.nilsl, .nilsl] [], none, []⟩, ⟨(some 75), .load none (.t 10), none, [6]⟩, ⟨(some 76), .load none (.t 11), none, [6]⟩, ⟨none, .store (some 2) (.t 4) (.t 74), none, []⟩, ⟨(some 5), .mv (.t 75), none, []⟩, ⟨(some 6), .mv (.t 76), none, []⟩]) .ret) .skip)) 
  (.seq (.region [⟨(some 77), .mv (.t 9), none, []⟩, ⟨(some 78), .call (.fn 128) [(.t 77)], none, []⟩, ⟨none, .store (some 2) (.t 4) (.t 78), none, []⟩, ⟨(some 5), .mv (.c (.i .i64 0)), none, []⟩, ⟨(some 6), .mv (.c (.i .i64 0)), none, []⟩]) .ret)))))))))))⟩
def c95 : AFunc := ⟨1, 7, [(2, none)], (some 
  (.seq (.region [⟨(some 1), .box (.t 0), none, []⟩, ⟨(some 2), .mv (.c (.b false)), none, []⟩]) 
  (.seq (.region [⟨(some 4), .build [(.b false), (.i .i64 0), (.i .i64 0)] [(1, 1, (.c (.i .i64 400))), (2, 1, (.c (.i .i64 40)))], none, []⟩, ⟨(some 3), .alloc (.ag [(.b false), (.i .i64 0), (.i .i64 0)]), none, []⟩, ⟨none, .store (some 3) (.t 3) (.t 4), none, []⟩]) 
  (.seq (.region [⟨(some 5), .load (some 4) (.t 1), none, []⟩, ⟨(some 6), .call (.fn 88) [(.t 3), (.t 5), (.c (.i .i64 1))], none, []⟩, ⟨(some 2), .mv (.t 6), none, []⟩]) .ret))))⟩
def c96 : AFunc := ⟨2, 37, [(4, none)], (some 
  (.seq (.region [⟨(some 3), .box (.t 1), none, []⟩, ⟨(some 4), .mv (.c (.b false)), none, []⟩]) 
  (.seq (.region [⟨(some 5), .mv (.c (.i .i64 0)), none, []⟩, ⟨(some 6), .mv (.c (.i .i64 0)), none, []⟩]) 
  (.seq 
  (.seq (.region [⟨(some 11), .mv (.t 0), none, []⟩, ⟨(some 12), .bin .eql (.t 11) (.c (.i .u8 2)), none, []⟩]) (.cond (.t 12) (.region [⟨(some 5), .mv (.c (.i .i64 2)), none, []⟩, ⟨(some 6), .mv (.c (.i .i64 1)), none, []⟩]) .skip)) 
  (.seq 
  (.seq (.region [⟨(some 13), .load (some 4) (.t 3), none, []⟩, ⟨(some 14), .call (.fn 129) [(.t 13)], none, []⟩, ⟨(some 15), .len 1 (.t 14), none, []⟩, ⟨(some 16), .mv (.c (.i .i64 0)), none, []⟩]) (.block 0 (.loop 
  (.seq (.region [⟨(some 17), .bin .lss (.t 16) (.t 15), none, []⟩]) 
  (.seq (.cond (.t 17) .skip (.exit 0)) 
  (.seq (.block 1 
  (.seq (.region [⟨(some 18), .idxSl (some 2) (.t 14) (.t 16), none, []⟩, ⟨(some 19), .load (some 2) (.t 18), none, []⟩, ⟨(some 8), .alloc (.ag [(.s []), (.i .i64 0)]), none, []⟩, ⟨none, .store (some 2) (.t 8) (.t 19), none, []⟩]) 
  (.seq (.region [⟨(some 20), .fieldAddr 1 none (.t 8), none, []⟩, ⟨(some 21), .load none (.t 20), none, []⟩, ⟨(some 22), .mv (.t 5), none, []⟩, ⟨(some 23), .bin .gtr (.t 21) (.t 22), none, []⟩]) (.cond (.t 23) 
  (.seq (.region [⟨(some 4), .mv (.c (.b false)), none, []⟩]) .ret) .skip)))) (.region [⟨(some 24), .bin .add (.t 16) (.c (.i .i64 1)), none, []⟩, ⟨(some 16), .mv (.t 24), none, []⟩]))))))) 
  (.seq 
  (.seq (.region [⟨(some 25), .load (some 4) (.t 3), none, []⟩, ⟨(some 26), .call (.fn 130) [(.t 25)], none, []⟩, ⟨(some 27), .len 1 (.t 26), none, []⟩, ⟨(some 28), .mv (.c (.i .i64 0)), none, []⟩]) (.block 2 (.loop 
  (.seq (.region [⟨(some 29), .bin .lss (.t 28) (.t 27), none, []⟩]) 
  (.seq (.cond (.t 29) .skip (.exit 2)) 
  (.seq (.block 3 
  (.seq (.region [⟨(some 30), .idxSl (some 2) (.t 26) (.t 28), none, []⟩, ⟨(some 31), .load (some 2) (.t 30), none, []⟩, ⟨(some 10), .alloc (.ag [(.s []), (.i .i64 0)]), none, []⟩, ⟨none, .store (some 2) (.t 10) (.t 31), none, []⟩]) 
  (.seq (.region [⟨(some 32), .fieldAddr 1 none (.t 10), none, []⟩, ⟨(some 33), .load none (.t 32), none, []⟩, ⟨(some 34), .mv (.t 6), none, []⟩, ⟨(some 35), .bin .gtr (.t 33) (.t 34), none, []⟩]) (.cond (.t 35) 
  (.seq (.region [⟨(some 4), .mv (.c (.b false)), none, []⟩]) .ret) .skip)))) (.region [⟨(some 36), .bin .add (.t 28) (.c (.i .i64 1)), none, []⟩, ⟨(some 28), .mv (.t 36), none, []⟩]))))))) 
  (.seq (.region [⟨(some 4), .mv (.c (.b true)), none, []⟩]) .ret)))))))⟩
def c97 : AFunc := ⟨1, 25, [(2, (some (some 4))), (3, none), (4, none)], (some 
  (.seq (.region [⟨(some 2), .alloc (.ag [(.i .u8 0), (.s []), .nilsl, .nilsl]), none, []⟩, ⟨(some 3), .mv (.c (.i .i64 0)), none, []⟩, ⟨(some 4), .mv (.c (.i .i64 0)), none, []⟩]) 
  (.seq (.region [⟨(some 9), .mv (.t 0), none, []⟩, ⟨(some 10), .call (.fn 131) [(.t 9), (.c (.b true)), (.c (.f (.func 132) [] []))], none, []⟩, ⟨(some 8), .mv (.t 10), none, []⟩, ⟨(some 11), .extract (.t 8) 0, none, []⟩, ⟨(some 12), .extract (.t 8) 1, none, []⟩, ⟨(some 13), .extract (.t 8) 2, none, []⟩, ⟨(some 5), .alloc (.ag [(.i .u8 0), (.s []), .nilsl, .nilsl]), none, []⟩, ⟨none, .store (some 4) (.t 5) (.t 11), none, []⟩, ⟨(some 6), .mv (.t 12), none, []⟩, ⟨(some 7), .mv (.t 13), none, []⟩]) 
  (.seq 
  (.seq (.region [⟨(some 14), .mv (.t 7), none, []⟩, ⟨(some 15), .bin .eql (.t 14) (.c (.i .i64 0)), none, []⟩, ⟨(some 16), .mv (.t 15), none, []⟩, ⟨(some 17), .load (some 4) (.t 5), (some (16, true)), []⟩, ⟨(some 18), .call (.fn 58) [(.t 17)], (some (16, true)), []⟩, ⟨(some 19), .not (.t 18), (some (16, true)), []⟩, ⟨(some 20), .pick (.t 16) (.t 19) (.c (.b false)), none, []⟩]) (.cond (.t 20) 
  (.seq (.region [⟨(some 21), .build [(.i .u8 0), (.s []), .nilsl, .nilsl] [], none, []⟩, ⟨none, .store (some 4) (.t 2) (.t 21), none, []⟩, ⟨(some 3), .mv (.c (.i .i64 0)), none, []⟩, ⟨(some 4), .mv (.c (.i .i64 3)), none, []⟩]) .ret) .skip)) 
  (.seq (.region [⟨(some 22), .load (some 4) (.t 5), none, []⟩, ⟨(some 23), .mv (.t 6), none, []⟩, ⟨(some 24), .mv (.t 7), none, []⟩, ⟨none, .store (some 4) (.t 2) (.t 22), none, []⟩, ⟨(some 3), .mv (.t 23), none, []⟩, ⟨(some 4), .mv (.t 24), none, []⟩]) .ret)))))⟩
def c98 : AFunc := ⟨2, 47, [], (some 
  (.seq (.region [⟨(some 3), .mv (.c (.i .i64 0)), none, []⟩, ⟨(some 4), .mv (.c (.b false)), none, []⟩]) 
  (.seq (.region [⟨(some 5), .mv (.c (.i .i64 0)), none, []⟩]) (.block 0 (.loop 
  (.seq 
  (.seq (.region [⟨(some 6), .mv (.t 5), none, []⟩, ⟨(some 7), .load none (.t 1), none, []⟩, ⟨(some 8), .len 0 (.t 7), none, []⟩, ⟨(some 9), .bin .leq (.t 6) (.t 8), none, []⟩]) (.cond (.t 9) .skip (.exit 0))) 
  (.seq (.block 1 (.block 2 
  (.seq (.region [⟨(some 13), .mv (.t 5), none, []⟩, ⟨(some 14), .load none (.t 1), none, []⟩, ⟨(some 15), .len 0 (.t 14), none, []⟩, ⟨(some 16), .bin .eql (.t 13) (.t 15), none, []⟩, ⟨(some 17), .mv (.t 16), none, []⟩, ⟨(some 18), .load none (.t 1), (some (17, false)), []⟩, ⟨(some 19), .mv (.t 5), (some (17, false)), []⟩, ⟨(some 20), .indexStr (.t 18) (.t 19), (some (17, false)), []⟩, ⟨(some 21), .bin .eql (.t 20) (.c (.i .u8 59)), (some (17, false)), []⟩, ⟨(some 22), .mv (.t 21), (some (17, false)), []⟩, ⟨(some 23), .mv (.t 4), (some (22, true)), []⟩, ⟨(some 24), .not (.t 23), (some (22, true)), []⟩, ⟨(some 25), .pick (.t 22) (.t 24) (.c (.b false)), (some (17, false)), []⟩, ⟨(some 26), .pick (.t 17) (.c (.b true)) (.t 25), none, []⟩, ⟨(some 12), .mv (.t 26), none, []⟩]) (.cond (.t 12) 
  (.seq 
  (.seq (.region [⟨(some 27), .mv (.t 0), none, []⟩, ⟨(some 28), .load none (.t 1), none, []⟩, ⟨(some 29), .mv (.t 3), none, []⟩, ⟨(some 30), .mv (.t 5), none, []⟩, ⟨(some 31), .sliceStr (.t 28) (some (.t 29)) (some (.t 30)), none, []⟩, ⟨(some 32), .call (.fn 99) [(.t 31)], none, []⟩, ⟨(some 33), .call (.val (.t 27)) [(.t 32)], none, []⟩, ⟨(some 34), .not (.t 33), none, []⟩]) (.cond (.t 34) .ret .skip)) (.region [⟨(some 35), .mv (.t 5), none, []⟩, ⟨(some 36), .bin .add (.t 35) (.c (.i .i64 1)), none, []⟩, ⟨(some 3), .mv (.t 36), none, []⟩])) 
  (.seq (.region [⟨(some 38), .load none (.t 1), none, []⟩, ⟨(some 39), .mv (.t 5), none, []⟩, ⟨(some 40), .indexStr (.t 38) (.t 39), none, []⟩, ⟨(some 41), .bin .eql (.t 40) (.c (.i .u8 123)), none, []⟩, ⟨(some 37), .mv (.t 41), none, []⟩]) (.cond (.t 37) (.region [⟨(some 4), .mv (.c (.b true)), none, []⟩]) 
  (.seq (.region [⟨(some 43), .load none (.t 1), none, []⟩, ⟨(some 44), .mv (.t 5), none, []⟩, ⟨(some 45), .indexStr (.t 43) (.t 44), none, []⟩, ⟨(some 46), .bin .eql (.t 45) (.c (.i .u8 125)), none, []⟩, ⟨(some 42), .mv (.t 46), none, []⟩]) (.cond (.t 42) (.region [⟨(some 4), .mv (.c (.b false)), none, []⟩]) .skip)))))))) (.region [⟨(some 10), .mv (.t 5), none, []⟩, ⟨(some 11), .bin .add (.t 10) (.c (.i .i64 1)), none, []⟩, ⟨(some 5), .mv (.t 11), none, []⟩]))))))))⟩
def c99 : AFunc := ⟨1, 54, [(2, none)], (some 
  (.seq (.region [⟨(some 2), .mv (.c (.s [])), none, []⟩]) 
  (.seq 
  (.seq (.region [⟨(some 7), .mv (.t 0), none, []⟩, ⟨(some 8), .strToBytes (.t 7), none, []⟩, ⟨(some 9), .len 1 (.t 8), none, []⟩, ⟨(some 10), .mv (.c (.i .i64 0)), none, []⟩]) (.block 0 (.loop 
  (.seq (.region [⟨(some 11), .bin .lss (.t 10) (.t 9), none, []⟩]) 
  (.seq (.cond (.t 11) .skip (.exit 0)) 
  (.seq (.block 1 
  (.seq (.region [⟨(some 12), .mv (.t 10), none, []⟩, ⟨(some 13), .idxSl none (.t 8) (.t 10), none, []⟩, ⟨(some 14), .load none (.t 13), none, []⟩, ⟨(some 3), .mv (.t 12), none, []⟩, ⟨(some 4), .mv (.t 14), none, []⟩]) 
  (.seq 
  (.seq (.region [⟨(some 15), .mv (.t 4), none, []⟩, ⟨(some 16), .bin .geq (.t 15) (.c (.i .u8 128)), none, []⟩]) (.cond (.t 16) 
  (.seq (.region [⟨(some 17), .mv (.t 0), none, []⟩, ⟨(some 18), .mv (.t 3), none, []⟩, ⟨(some 19), .sliceStr (.t 17) (some (.t 18)) none, none, []⟩, ⟨(some 20), .call (.fn 133) [(.t 19), (.c (.f (.func 134) [] []))], none, []⟩, ⟨(some 2), .mv (.t 20), none, []⟩]) .ret) .skip)) 
  (.seq 
  (.seq (.region [⟨(some 21), .mv (.t 4), none, []⟩, ⟨(some 22), .idxArr 256 none (.g 1) (.t 21), none, []⟩, ⟨(some 23), .load none (.t 22), none, []⟩, ⟨(some 24), .bin .neq (.t 23) (.c (.i .u8 0)), none, []⟩]) (.cond (.t 24) (.exit 1) .skip)) 
  (.seq (.region [⟨(some 25), .mv (.t 0), none, []⟩, ⟨(some 26), .mv (.t 3), none, []⟩, ⟨(some 27), .sliceStr (.t 25) (some (.t 26)) none, none, []⟩, ⟨(some 0), .mv (.t 27), none, []⟩]) 
  (.seq (.region [⟨(some 28), .mv (.t 0), none, []⟩, ⟨(some 29), .len 0 (.t 28), none, []⟩, ⟨(some 30), .bin .sub (.t 29) (.c (.i .i64 1)), none, []⟩, ⟨(some 5), .mv (.t 30), none, []⟩]) (.block 2 (.loop 
  (.seq 
  (.seq (.region [⟨(some 31), .mv (.t 5), none, []⟩, ⟨(some 32), .bin .geq (.t 31) (.c (.i .i64 0)), none, []⟩]) (.cond (.t 32) .skip (.exit 2))) 
  (.seq (.block 3 
  (.seq (.region [⟨(some 35), .mv (.t 0), none, []⟩, ⟨(some 36), .mv (.t 5), none, []⟩, ⟨(some 37), .indexStr (.t 35) (.t 36), none, []⟩, ⟨(some 6), .mv (.t 37), none, []⟩]) 
  (.seq 
  (.seq (.region [⟨(some 38), .mv (.t 6), none, []⟩, ⟨(some 39), .bin .geq (.t 38) (.c (.i .u8 128)), none, []⟩]) (.cond (.t 39) 
  (.seq (.region [⟨(some 40), .mv (.t 0), none, []⟩, ⟨(some 41), .mv (.t 5), none, []⟩, ⟨(some 42), .bin .add (.t 41) (.c (.i .i64 1)), none, []⟩, ⟨(some 43), .sliceStr (.t 40) none (some (.t 42)), none, []⟩, ⟨(some 44), .call (.fn 135) [(.t 43), (.c (.f (.func 134) [] []))], none, []⟩, ⟨(some 2), .mv (.t 44), none, []⟩]) .ret) .skip)) 
  (.seq (.region [⟨(some 45), .mv (.t 6), none, []⟩, ⟨(some 46), .idxArr 256 none (.g 1) (.t 45), none, []⟩, ⟨(some 47), .load none (.t 46), none, []⟩, ⟨(some 48), .bin .eql (.t 47) (.c (.i .u8 0)), none, []⟩]) (.cond (.t 48) 
  (.seq (.region [⟨(some 49), .mv (.t 0), none, []⟩, ⟨(some 50), .mv (.t 5), none, []⟩, ⟨(some 51), .bin .add (.t 50) (.c (.i .i64 1)), none, []⟩, ⟨(some 52), .sliceStr (.t 49) none (some (.t 51)), none, []⟩, ⟨(some 2), .mv (.t 52), none, []⟩]) .ret) .skip))))) (.region [⟨(some 33), .mv (.t 5), none, []⟩, ⟨(some 34), .bin .sub (.t 33) (.c (.i .i64 1)), none, []⟩, ⟨(some 5), .mv (.t 34), none, []⟩]))))))))))) (.region [⟨(some 53), .bin .add (.t 10) (.c (.i .i64 1)), none, []⟩, ⟨(some 10), .mv (.t 53), none, []⟩]))))))) 
  (.seq (.region [⟨(some 2), .mv (.c (.s [])), none, []⟩]) .ret))))⟩
def c100 : AFunc := ⟨2, 11, [(4, none), (5, none)], (some 
  (.seq (.region [⟨(some 4), .mv (.c (.s [])), none, []⟩, ⟨(some 5), .mv (.c (.b false)), none, []⟩]) 
  (.seq (.region [⟨(some 6), .mv (.t 0), none, []⟩, ⟨(some 7), .mv (.t 1), none, []⟩, ⟨(some 8), .call (.fn 136) [(.t 6), (.t 7)], none, []⟩, ⟨(some 9), .extract (.t 8) 0, none, []⟩, ⟨(some 10), .extract (.t 8) 1, none, []⟩, ⟨(some 4), .mv (.t 9), none, []⟩, ⟨(some 5), .mv (.t 10), none, []⟩]) .ret)))⟩
def c101 : AFunc := ⟨2, 13, [(4, none), (5, none), (6, none)], (some 
  (.seq (.region [⟨(some 4), .mv (.c (.s [])), none, []⟩, ⟨(some 5), .mv (.c (.s [])), none, []⟩, ⟨(some 6), .mv (.c (.b false)), none, []⟩]) 
  (.seq (.region [⟨(some 7), .mv (.t 0), none, []⟩, ⟨(some 8), .mv (.t 1), none, []⟩, ⟨(some 9), .call (.fn 137) [(.t 7), (.t 8)], none, []⟩, ⟨(some 10), .extract (.t 9) 0, none, []⟩, ⟨(some 11), .extract (.t 9) 1, none, []⟩, ⟨(some 12), .extract (.t 9) 2, none, []⟩, ⟨(some 4), .mv (.t 10), none, []⟩, ⟨(some 5), .mv (.t 11), none, []⟩, ⟨(some 6), .mv (.t 12), none, []⟩]) .ret)))⟩
def c102 : AFunc := ⟨2, 8, [(4, none)], (some 
  (.seq (.region [⟨(some 4), .mv (.c .nf), none, []⟩]) 
  (.seq (.region [⟨(some 5), .mv (.t 0), none, []⟩, ⟨(some 6), .mv (.t 1), none, []⟩, ⟨(some 7), .call (.fn 138) [(.t 5), (.t 6), (.c (.i .i64 0))], none, []⟩, ⟨(some 4), .mv (.t 7), none, []⟩]) .ret)))⟩
def c106 : AFunc := ⟨2, 28, [(4, none)], (some 
  (.seq (.region [⟨(some 4), .mv (.c .nilsl), none, []⟩]) 
  (.seq 
  (.seq (.region [⟨(some 8), .mv (.t 0), none, []⟩, ⟨(some 9), .len 1 (.t 8), none, []⟩, ⟨(some 10), .bin .eql (.t 9) (.c (.i .i64 0)), none, []⟩]) (.cond (.t 10) 
  (.seq (.region [⟨(some 4), .mv (.c .nilsl), none, []⟩]) .ret) .skip)) 
  (.seq (.region [⟨(some 11), .mv (.t 0), none, []⟩, ⟨(some 12), .len 1 (.t 11), none, []⟩, ⟨(some 13), .mkSlice (some 3) 48 [(.b false), (.s []), .nilsl] (.c (.i .i64 0)) (.t 12), none, []⟩, ⟨(some 5), .mv (.t 13), none, []⟩]) 
  (.seq 
  (.seq (.region [⟨(some 14), .mv (.t 0), none, []⟩, ⟨(some 15), .len 1 (.t 14), none, []⟩, ⟨(some 16), .mv (.c (.i .i64 0)), none, []⟩]) (.block 0 (.loop 
  (.seq (.region [⟨(some 17), .bin .lss (.t 16) (.t 15), none, []⟩]) 
  (.seq (.cond (.t 17) .skip (.exit 0)) 
  (.seq (.block 1 
  (.seq (.region [⟨(some 18), .idxSl (some 3) (.t 14) (.t 16), none, []⟩, ⟨(some 19), .load (some 3) (.t 18), none, []⟩, ⟨(some 7), .alloc (.ag [(.b false), (.s []), .nilsl]), none, []⟩, ⟨none, .store (some 3) (.t 7) (.t 19), none, []⟩]) (.region [⟨(some 20), .mv (.t 5), none, []⟩, ⟨(some 21), .mv (.t 1), none, []⟩, ⟨(some 22), .load (some 3) (.t 7), none, []⟩, ⟨(some 23), .call (.val (.t 21)) [(.t 22)], none, []⟩, ⟨(some 24), .buildSlice (some 3) 1 [(.b false), (.s []), .nilsl] [(0, (.t 23))], none, []⟩, ⟨(some 25), .append (some 3) 48 (.t 20) (.t 24), none, []⟩, ⟨(some 5), .mv (.t 25), none, []⟩]))) (.region [⟨(some 26), .bin .add (.t 16) (.c (.i .i64 1)), none, []⟩, ⟨(some 16), .mv (.t 26), none, []⟩]))))))) 
  (.seq (.region [⟨(some 27), .mv (.t 5), none, []⟩, ⟨(some 4), .mv (.t 27), none, []⟩]) .ret))))))⟩
def c107 : AFunc := ⟨1, 11, [(2, (some (some 3)))], (some 
  (.seq (.region [⟨(some 1), .box (.t 0), none, []⟩, ⟨(some 2), .alloc (.ag [(.b false), (.s []), .nilsl]), none, []⟩]) 
  (.seq (.draw [⟨(some 3), .fieldAddr 0 none (.t 1), none, []⟩, ⟨(some 4), .load none (.t 3), none, [8]⟩, ⟨(some 5), .fieldAddr 1 none (.t 1), none, []⟩, ⟨(some 6), .load none (.t 5), none, [8]⟩, ⟨(some 7), .fieldAddr 2 none (.t 1), none, []⟩, ⟨(some 8), .load none (.t 7), none, []⟩, ⟨(some 9), .call (.fn 106) [(.t 8), (.c (.f (.func 107) [] []))], none, []⟩, ⟨(some 10), .build [(.b false), (.s []), .nilsl] [(0, 1, (.t 4)), (1, 1, (.t 6)), (2, 1, (.t 9))], none, []⟩, ⟨none, .store (some 3) (.t 2) (.t 10), none, []⟩]) .ret)))⟩
def c108 : AFunc := ⟨2, 28, [(4, none)], (some 
  (.seq (.region [⟨(some 4), .mv (.c .nilsl), none, []⟩]) 
  (.seq 
  (.seq (.region [⟨(some 8), .mv (.t 0), none, []⟩, ⟨(some 9), .len 1 (.t 8), none, []⟩, ⟨(some 10), .bin .eql (.t 9) (.c (.i .i64 0)), none, []⟩]) (.cond (.t 10) 
  (.seq (.region [⟨(some 4), .mv (.c .nilsl), none, []⟩]) .ret) .skip)) 
  (.seq (.region [⟨(some 11), .mv (.t 0), none, []⟩, ⟨(some 12), .len 1 (.t 11), none, []⟩, ⟨(some 13), .mkSlice (some 4) 72 [(.i .u8 0), (.s []), .nilsl, .nilsl] (.c (.i .i64 0)) (.t 12), none, []⟩, ⟨(some 5), .mv (.t 13), none, []⟩]) 
  (.seq 
  (.seq (.region [⟨(some 14), .mv (.t 0), none, []⟩, ⟨(some 15), .len 1 (.t 14), none, []⟩, ⟨(some 16), .mv (.c (.i .i64 0)), none, []⟩]) (.block 0 (.loop 
  (.seq (.region [⟨(some 17), .bin .lss (.t 16) (.t 15), none, []⟩]) 
  (.seq (.cond (.t 17) .skip (.exit 0)) 
  (.seq (.block 1 
  (.seq (.region [⟨(some 18), .idxSl (some 4) (.t 14) (.t 16), none, []⟩, ⟨(some 19), .load (some 4) (.t 18), none, []⟩, ⟨(some 7), .alloc (.ag [(.i .u8 0), (.s []), .nilsl, .nilsl]), none, []⟩, ⟨none, .store (some 4) (.t 7) (.t 19), none, []⟩]) (.region [⟨(some 20), .mv (.t 5), none, []⟩, ⟨(some 21), .mv (.t 1), none, []⟩, ⟨(some 22), .load (some 4) (.t 7), none, []⟩, ⟨(some 23), .call (.val (.t 21)) [(.t 22)], none, []⟩, ⟨(some 24), .buildSlice (some 4) 1 [(.i .u8 0), (.s []), .nilsl, .nilsl] [(0, (.t 23))], none, []⟩, ⟨(some 25), .append (some 4) 72 (.t 20) (.t 24), none, []⟩, ⟨(some 5), .mv (.t 25), none, []⟩]))) (.region [⟨(some 26), .bin .add (.t 16) (.c (.i .i64 1)), none, []⟩, ⟨(some 16), .mv (.t 26), none, []⟩]))))))) 
  (.seq (.region [⟨(some 27), .mv (.t 5), none, []⟩, ⟨(some 4), .mv (.t 27), none, []⟩]) .ret))))))⟩
def c109 : AFunc := ⟨2, 37, [], (some 
  (.seq (.region [⟨(some 2), .box (.t 0), none, []⟩]) 
  (.seq 
  (.seq (.region [⟨(some 6), .fieldAddr 0 none (.t 2), none, []⟩, ⟨(some 7), .load none (.t 6), none, []⟩, ⟨(some 8), .bin .eql (.t 7) (.c (.i .u8 15)), none, []⟩, ⟨(some 9), .mv (.t 8), none, []⟩, ⟨(some 10), .fieldAddr 0 none (.t 2), (some (9, false)), []⟩, ⟨(some 11), .load none (.t 10), (some (9, false)), []⟩, ⟨(some 12), .bin .eql (.t 11) (.c (.i .u8 16)), (some (9, false)), []⟩, ⟨(some 13), .pick (.t 9) (.c (.b true)) (.t 12), none, []⟩, ⟨(some 14), .mv (.t 13), none, []⟩, ⟨(some 15), .fieldAddr 1 none (.t 2), (some (14, true)), []⟩, ⟨(some 16), .load none (.t 15), (some (14, true)), []⟩, ⟨(some 17), .call (.fn 143) [(.t 16)], (some (14, true)), []⟩, ⟨(some 18), .pick (.t 14) (.t 17) (.c (.b false)), none, []⟩]) (.cond (.t 18) (.region [⟨(some 19), .mv (.t 1), none, []⟩, ⟨(some 20), .fieldAddr 1 none (.t 2), none, []⟩, ⟨(some 21), .load none (.t 20), none, []⟩, ⟨none, .mapUpd (.inl 1) (.t 19) (.t 21) (.c (.b true)), none, []⟩]) .skip)) 
  (.seq (.region [⟨(some 22), .fieldAddr 2 none (.t 2), none, []⟩, ⟨(some 23), .load none (.t 22), none, []⟩, ⟨(some 24), .mv (.t 1), none, []⟩, ⟨(some 25), .call (.fn 144) [(.t 23), (.t 24)], none, []⟩]) 
  (.seq (.region [⟨(some 26), .fieldAddr 3 none (.t 2), none, []⟩, ⟨(some 27), .load none (.t 26), none, []⟩, ⟨(some 28), .len 1 (.t 27), none, []⟩, ⟨(some 29), .mv (.c (.i .i64 0)), none, []⟩]) (.block 0 (.loop 
  (.seq (.region [⟨(some 30), .bin .lss (.t 29) (.t 28), none, []⟩]) 
  (.seq (.cond (.t 30) .skip (.exit 0)) 
  (.seq (.block 1 
  (.seq (.region [⟨(some 31), .idxSl (some 4) (.t 27) (.t 29), none, []⟩, ⟨(some 32), .load (some 4) (.t 31), none, []⟩, ⟨(some 5), .alloc (.ag [(.i .u8 0), (.s []), .nilsl, .nilsl]), none, []⟩, ⟨none, .store (some 4) (.t 5) (.t 32), none, []⟩]) (.region [⟨(some 33), .load (some 4) (.t 5), none, []⟩, ⟨(some 34), .mv (.t 1), none, []⟩, ⟨(some 35), .call (.fn 109) [(.t 33), (.t 34)], none, []⟩]))) (.region [⟨(some 36), .bin .add (.t 29) (.c (.i .i64 1)), none, []⟩, ⟨(some 29), .mv (.t 36), none, []⟩])))))))))))⟩
def c110 : AFunc := ⟨1, 9, [(2, none)], (some 
  (.seq (.region [⟨(some 2), .mv (.c .nilsl), none, []⟩]) 
  (.seq (.region [⟨(some 4), .mv (.t 0), none, []⟩, ⟨(some 5), .call (.fn 145) [(.t 4)], none, []⟩, ⟨(some 3), .mv (.t 5), none, []⟩]) 
  (.seq (.region [⟨(some 6), .mv (.t 3), none, []⟩, ⟨(some 7), .call (.fn 146) [(.t 6)], none, []⟩]) 
  (.seq (.region [⟨(some 8), .mv (.t 3), none, []⟩, ⟨(some 2), .mv (.t 8), none, []⟩]) .ret)))))⟩
def c111 : AFunc := ⟨1, 4, [(2, none)], (some 
  (.seq (.region [⟨(some 1), .box (.t 0), none, []⟩, ⟨(some 2), .mv (.c .nf), none, []⟩]) 
  (.seq (.region [⟨(some 3), .mkFunc (.func 147) [] [(.t 1)], none, []⟩, ⟨(some 2), .mv (.t 3), none, []⟩]) .ret)))⟩
def c113 : AFunc := ⟨2, 24, [(4, none)], (some 
  (.seq (.region [⟨(some 2), .box (.t 0), none, []⟩, ⟨(some 3), .box (.t 1), none, []⟩, ⟨(some 4), .mv (.c (.b false)), none, []⟩]) 
  (.seq (.region [⟨(some 5), .fieldAddr 0 none (.t 2), none, []⟩, ⟨(some 6), .load none (.t 5), none, []⟩, ⟨(some 7), .fieldAddr 0 none (.t 3), none, []⟩, ⟨(some 8), .load none (.t 7), none, []⟩, ⟨(some 9), .binB false (.t 6) (.t 8), none, []⟩, ⟨(some 10), .mv (.t 9), none, []⟩, ⟨(some 11), .fieldAddr 1 none (.t 2), (some (10, true)), []⟩, ⟨(some 12), .load none (.t 11), (some (10, true)), []⟩, ⟨(some 13), .fieldAddr 1 none (.t 3), (some (10, true)), []⟩, ⟨(some 14), .load none (.t 13), (some (10, true)), []⟩, ⟨(some 15), .bin .eql (.t 12) (.t 14), (some (10, true)), []⟩, ⟨(some 16), .pick (.t 10) (.t 15) (.c (.b false)), none, []⟩, ⟨(some 17), .mv (.t 16), none, []⟩, ⟨(some 18), .fieldAddr 2 none (.t 2), (some (17, true)), []⟩, ⟨(some 19), .load none (.t 18), (some (17, true)), []⟩, ⟨(some 20), .fieldAddr 2 none (.t 3), (some (17, true)), []⟩, ⟨(some 21), .load none (.t 20), (some (17, true)), []⟩, ⟨(some 22), .call (.fn 86) [(.t 19), (.t 21)], (some (17, true)), []⟩, ⟨(some 23), .pick (.t 17) (.t 22) (.c (.b false)), none, []⟩, ⟨(some 4), .mv (.t 23), none, []⟩]) .ret)))⟩
def c114 : AFunc := ⟨2, 25, [(4, none)], (some 
  (.seq (.region [⟨(some 4), .mv (.c (.b false)), none, []⟩]) 
  (.seq (.region [⟨(some 5), .mv (.t 0), none, []⟩, ⟨(some 6), .nilCheck (.t 5), none, []⟩, ⟨(some 7), .fieldAddr 1 none (.t 6), none, []⟩, ⟨(some 8), .load none (.t 7), none, []⟩, ⟨(some 9), .bin .sub (.t 8) (.c (.i .i64 1)), none, []⟩, ⟨(some 10), .nilCheck (.t 5), none, []⟩, ⟨(some 11), .fieldAddr 1 none (.t 10), none, []⟩, ⟨none, .store none (.t 11) (.t 9), none, []⟩]) 
  (.seq (.region [⟨(some 12), .mv (.t 0), none, []⟩, ⟨(some 13), .nilCheck (.t 12), none, []⟩, ⟨(some 14), .fieldAddr 1 none (.t 13), none, []⟩, ⟨(some 15), .load none (.t 14), none, []⟩, ⟨(some 16), .bin .geq (.t 15) (.c (.i .i64 0)), none, []⟩, ⟨(some 17), .mv (.t 16), none, []⟩, ⟨(some 18), .mv (.t 1), (some (17, true)), []⟩, ⟨(some 19), .mv (.t 0), (some (17, true)), []⟩, ⟨(some 20), .nilCheck (.t 19), (some (17, true)), []⟩, ⟨(some 21), .fieldAddr 2 none (.t 20), (some (17, true)), []⟩, ⟨(some 22), .load none (.t 21), (some (17, true)), []⟩, ⟨(some 23), .bin .leq (.t 18) (.t 22), (some (17, true)), []⟩, ⟨(some 24), .pick (.t 17) (.t 23) (.c (.b false)), none, []⟩, ⟨(some 4), .mv (.t 24), none, []⟩]) .ret))))⟩
def c115 : AFunc := ⟨2, 20, [(4, none)], (some 
  (.seq (.region [⟨(some 4), .mv (.c (.b false)), none, []⟩]) 
  (.seq 
  (.seq (.region [⟨(some 5), .mv (.t 0), none, []⟩]) (.block 0 
  (.seq (.region [⟨(some 7), .bin .eql (.t 5) (.c (.i .u8 1)), none, []⟩, ⟨(some 6), .mv (.t 7), none, []⟩]) (.cond (.t 6) 
  (.seq (.region [⟨(some 8), .mv (.t 1), none, []⟩, ⟨(some 9), .call (.fn 91) [(.t 8)], none, []⟩, ⟨(some 4), .mv (.t 9), none, []⟩]) .ret) 
  (.seq (.region [⟨(some 11), .bin .eql (.t 5) (.c (.i .u8 2)), none, []⟩, ⟨(some 10), .mv (.t 11), none, []⟩]) (.cond (.t 10) 
  (.seq (.region [⟨(some 12), .mv (.t 1), none, []⟩, ⟨(some 13), .call (.fn 148) [(.t 12)], none, []⟩, ⟨(some 4), .mv (.t 13), none, []⟩]) .ret) 
  (.seq (.region [⟨(some 15), .bin .eql (.t 5) (.c (.i .u8 3)), none, []⟩, ⟨(some 14), .mv (.t 15), none, []⟩]) (.cond (.t 14) 
  (.seq (.region [⟨(some 16), .mv (.t 1), none, []⟩, ⟨(some 17), .call (.fn 149) [(.t 16)], none, []⟩, ⟨(some 4), .mv (.t 17), none, []⟩]) .ret) .skip)))))))) 
  (.seq (.region [⟨(some 18), .mv (.t 1), none, []⟩, ⟨(some 19), .bin .eql (.t 18) (.c (.s [])), none, []⟩, ⟨(some 4), .mv (.t 19), none, []⟩]) .ret))))⟩
def c116 : AFunc := ⟨1, 32, [(2, none)], (some 
  (.seq (.region [⟨(some 2), .mv (.c (.b false)), none, []⟩]) 
  (.seq (.region [⟨(some 3), .mv (.t 0), none, []⟩, ⟨(some 4), .len 1 (.t 3), none, []⟩, ⟨(some 5), .bin .eql (.t 4) (.c (.i .i64 2)), none, []⟩, ⟨(some 6), .mv (.t 5), none, []⟩, ⟨(some 7), .mv (.t 0), (some (6, true)), []⟩, ⟨(some 8), .idxSl (some 3) (.t 7) (.c (.i .i64 0)), (some (6, true)), []⟩, ⟨(some 9), .fieldAddr 0 none (.t 8), (some (6, true)), []⟩, ⟨(some 10), .load none (.t 9), (some (6, true)), []⟩, ⟨(some 11), .pick (.t 6) (.t 10) (.c (.b false)), none, []⟩, ⟨(some 12), .mv (.t 11), none, []⟩, ⟨(some 13), .mv (.t 0), (some (12, true)), []⟩, ⟨(some 14), .idxSl (some 3) (.t 13) (.c (.i .i64 0)), (some (12, true)), []⟩, ⟨(some 15), .fieldAddr 1 none (.t 14), (some (12, true)), []⟩, ⟨(some 16), .load none (.t 15), (some (12, true)), []⟩, ⟨(some 17), .call (.fn 148) [(.t 16)], (some (12, true)), []⟩, ⟨(some 18), .pick (.t 12) (.t 17) (.c (.b false)), none, []⟩, ⟨(some 19), .mv (.t 18), none, []⟩, ⟨(some 20), .mv (.t 0), (some (19, true)), []⟩, ⟨(some 21), .idxSl (some 3) (.t 20) (.c (.i .i64 1)), (some (19, true)), []⟩, ⟨(some 22), .fieldAddr 0 none (.t 21), (some (19, true)), []⟩, ⟨(some 23), .load none (.t 22), (some (19, true)), []⟩, ⟨(some 24), .pick (.t 19) (.t 23) (.c (.b false)), none, []⟩, ⟨(some 25), .mv (.t 24), none, []⟩, ⟨(some 26), .mv (.t 0), (some (25, true)), []⟩, ⟨(some 27), .idxSl (some 3) (.t 26) (.c (.i .i64 1)), (some (25, true)), []⟩, ⟨(some 28), .fieldAddr 1 none (.t 27), (some (25, true)), []⟩, ⟨(some 29), .load none (.t 28), (some (25, true)), []⟩, ⟨(some 30), .call (.fn 150) [(.t 29)], (some (25, true)), []⟩, ⟨(some 31), .pick (.t 25) (.t 30) (.c (.b false)), none, []⟩, ⟨(some 2), .mv (.t 31), none, []⟩]) .ret)))⟩
def c117 : AFunc := ⟨3, 21, [(6, none)], (some 
  (.seq (.region [⟨(some 6), .mv (.c (.b false)), none, []⟩]) 
  (.seq 
  (.seq (.region [⟨(some 9), .mv (.t 1), none, []⟩, ⟨(some 10), .len 1 (.t 9), none, []⟩, ⟨(some 11), .mv (.c (.i .i64 0)), none, []⟩]) (.block 0 (.loop 
  (.seq (.region [⟨(some 12), .bin .lss (.t 11) (.t 10), none, []⟩]) 
  (.seq (.cond (.t 12) .skip (.exit 0)) 
  (.seq (.block 1 
  (.seq (.region [⟨(some 13), .idxSl (some 3) (.t 9) (.t 11), none, []⟩, ⟨(some 14), .load (some 3) (.t 13), none, []⟩, ⟨(some 8), .alloc (.ag [(.b false), (.s []), .nilsl]), none, []⟩, ⟨none, .store (some 3) (.t 8) (.t 14), none, []⟩]) 
  (.seq (.region [⟨(some 15), .mv (.t 0), none, []⟩, ⟨(some 16), .load (some 3) (.t 8), none, []⟩, ⟨(some 17), .mv (.t 2), none, []⟩, ⟨(some 18), .call (.fn 151) [(.t 15), (.t 16), (.t 17)], none, []⟩, ⟨(some 19), .not (.t 18), none, []⟩]) (.cond (.t 19) 
  (.seq (.region [⟨(some 6), .mv (.c (.b false)), none, []⟩]) .ret) .skip)))) (.region [⟨(some 20), .bin .add (.t 11) (.c (.i .i64 1)), none, []⟩, ⟨(some 11), .mv (.t 20), none, []⟩]))))))) 
  (.seq (.region [⟨(some 6), .mv (.c (.b true)), none, []⟩]) .ret))))⟩
def c118 : AFunc := ⟨2, 9, [(4, none)], (some 
  (.seq (.region [⟨(some 4), .mv (.c (.b false)), none, []⟩]) 
  (.seq (.region [⟨(some 5), .mv (.t 0), none, []⟩, ⟨(some 6), .mv (.t 1), none, []⟩, ⟨(some 7), .call (.fn 152) [(.t 5), (.t 6)], none, []⟩, ⟨(some 8), .bin .geq (.t 7) (.c (.i .i64 0)), none, []⟩, ⟨(some 4), .mv (.t 8), none, []⟩]) .ret)))⟩
def c120 : AFunc := ⟨2, 6, [(4, none)], (some 
  (.seq (.region [⟨(some 2), .box (.t 0), none, []⟩, ⟨(some 3), .box (.t 1), none, []⟩, ⟨(some 4), .mv (.c .nf), none, []⟩]) 
  (.seq (.region [⟨(some 5), .mkFunc (.func 153) [] [(.t 2), (.t 3)], none, []⟩, ⟨(some 4), .mv (.t 5), none, []⟩]) .ret)))⟩
def c121 : AFunc := ⟨1, 9, [(2, none)], (some 
  (.seq (.region [⟨(some 2), .mv (.c (.b false)), none, []⟩]) 
  (.seq (.region [⟨(some 3), .mv (.t 0), none, []⟩, ⟨(some 4), .bin .geq (.t 3) (.c (.i .u8 65)), none, []⟩, ⟨(some 5), .mv (.t 4), none, []⟩, ⟨(some 6), .mv (.t 0), (some (5, true)), []⟩, ⟨(some 7), .bin .leq (.t 6) (.c (.i .u8 90)), (some (5, true)), []⟩, ⟨(some 8), .pick (.t 5) (.t 7) (.c (.b false)), none, []⟩, ⟨(some 2), .mv (.t 8), none, []⟩]) .ret)))⟩
def c123 : AFunc := ⟨1, 63, [(2, none)], (some 
  (.seq (.region [⟨(some 1), .box (.t 0), none, []⟩, ⟨(some 2), .mv (.c (.b false)), none, []⟩]) 
  (.seq (.region [⟨(some 3), .mv (.c .nilsl), none, []⟩, ⟨(some 4), .mv (.c .nilsl), none, []⟩]) 
  (.seq 
  (.seq (.region [⟨(some 9), .fieldAddr 0 none (.t 1), none, []⟩, ⟨(some 10), .load none (.t 9), none, []⟩, ⟨(some 11), .len 1 (.t 10), none, []⟩, ⟨(some 12), .mv (.c (.i .i64 0)), none, []⟩]) (.block 0 (.loop 
  (.seq (.region [⟨(some 13), .bin .lss (.t 12) (.t 11), none, []⟩]) 
  (.seq (.cond (.t 13) .skip (.exit 0)) 
  (.seq (.block 1 
  (.seq (.region [⟨(some 14), .idxSl (some 5) (.t 10) (.t 12), none, []⟩, ⟨(some 15), .load (some 5) (.t 14), none, []⟩, ⟨(some 6), .alloc (.ag [(.s []), (.i .u8 0), (.s []), .nilsl, .nilsl]), none, []⟩, ⟨none, .store (some 5) (.t 6) (.t 15), none, []⟩]) 
  (.seq 
  (.seq (.region [⟨(some 16), .fieldAddr 0 none (.t 6), none, []⟩, ⟨(some 17), .load none (.t 16), none, []⟩, ⟨(some 18), .call (.fn 157) [(.t 17)], none, []⟩, ⟨(some 19), .not (.t 18), none, []⟩, ⟨(some 20), .mv (.t 19), none, []⟩, ⟨(some 21), .fieldAddr 1 (some 4) (.t 6), (some (20, false)), []⟩, ⟨(some 22), .load (some 4) (.t 21), (some (20, false)), []⟩, ⟨(some 23), .call (.fn 158) [(.t 22)], (some (20, false)), []⟩, ⟨(some 24), .call (.fn 95) [(.t 23)], (some (20, false)), []⟩, ⟨(some 25), .not (.t 24), (some (20, false)), []⟩, ⟨(some 26), .pick (.t 20) (.c (.b true)) (.t 25), none, []⟩]) (.cond (.t 26) 
  (.seq (.region [⟨(some 2), .mv (.c (.b false)), none, []⟩]) .ret) .skip)) (.region [⟨(some 27), .mv (.t 3), none, []⟩, ⟨(some 28), .fieldAddr 0 none (.t 6), none, []⟩, ⟨(some 29), .load none (.t 28), none, []⟩, ⟨(some 30), .buildSlice none 1 [(.s [])] [(0, (.t 29))], none, []⟩, ⟨(some 31), .append none 16 (.t 27) (.t 30), none, []⟩, ⟨(some 3), .mv (.t 31), none, []⟩])))) (.region [⟨(some 32), .bin .add (.t 12) (.c (.i .i64 1)), none, []⟩, ⟨(some 12), .mv (.t 32), none, []⟩]))))))) 
  (.seq 
  (.seq (.region [⟨(some 33), .fieldAddr 1 none (.t 1), none, []⟩, ⟨(some 34), .load none (.t 33), none, []⟩, ⟨(some 35), .len 1 (.t 34), none, []⟩, ⟨(some 36), .mv (.c (.i .i64 0)), none, []⟩]) (.block 2 (.loop 
  (.seq (.region [⟨(some 37), .bin .lss (.t 36) (.t 35), none, []⟩]) 
  (.seq (.cond (.t 37) .skip (.exit 2)) 
  (.seq (.block 3 
  (.seq (.region [⟨(some 38), .idxSl (some 4) (.t 34) (.t 36), none, []⟩, ⟨(some 39), .load (some 4) (.t 38), none, []⟩, ⟨(some 8), .alloc (.ag [(.s []), (.b false), (.s []), .nilsl]), none, []⟩, ⟨none, .store (some 4) (.t 8) (.t 39), none, []⟩]) 
  (.seq 
  (.seq (.region [⟨(some 40), .fieldAddr 0 none (.t 8), none, []⟩, ⟨(some 41), .load none (.t 40), none, []⟩, ⟨(some 42), .call (.fn 159) [(.t 41)], none, []⟩, ⟨(some 43), .not (.t 42), none, []⟩, ⟨(some 44), .mv (.t 43), none, []⟩, ⟨(some 45), .fieldAddr 1 (some 3) (.t 8), (some (44, false)), []⟩, ⟨(some 46), .load (some 3) (.t 45), (some (44, false)), []⟩, ⟨(some 47), .call (.fn 161) [(.t 46)], (some (44, false)), []⟩, ⟨(some 48), .call (.fn 160) [(.t 47)], (some (44, false)), []⟩, ⟨(some 49), .not (.t 48), (some (44, false)), []⟩, ⟨(some 50), .pick (.t 44) (.c (.b true)) (.t 49), none, []⟩]) (.cond (.t 50) 
  (.seq (.region [⟨(some 2), .mv (.c (.b false)), none, []⟩]) .ret) .skip)) (.region [⟨(some 51), .mv (.t 4), none, []⟩, ⟨(some 52), .fieldAddr 0 none (.t 8), none, []⟩, ⟨(some 53), .load none (.t 52), none, []⟩, ⟨(some 54), .buildSlice none 1 [(.s [])] [(0, (.t 53))], none, []⟩, ⟨(some 55), .append none 16 (.t 51) (.t 54), none, []⟩, ⟨(some 4), .mv (.t 55), none, []⟩])))) (.region [⟨(some 56), .bin .add (.t 36) (.c (.i .i64 1)), none, []⟩, ⟨(some 36), .mv (.t 56), none, []⟩]))))))) 
  (.seq (.region [⟨(some 57), .mv (.t 3), none, []⟩, ⟨(some 58), .call (.fn 162) [(.t 57)], none, []⟩, ⟨(some 59), .mv (.t 58), none, []⟩, ⟨(some 60), .mv (.t 4), (some (59, true)), []⟩, ⟨(some 61), .call (.fn 162) [(.t 60)], (some (59, true)), []⟩, ⟨(some 62), .pick (.t 59) (.t 61) (.c (.b false)), none, []⟩, ⟨(some 2), .mv (.t 62), none, []⟩]) .ret))))))⟩
def c124 : AFunc := ⟨1, 45, [(2, none)], (some 
  (.seq (.region [⟨(some 1), .box (.t 0), none, []⟩, ⟨(some 2), .mv (.c (.p none)), none, []⟩]) 
  (.seq (.region [⟨(some 8), .mkMap, none, []⟩, ⟨(some 9), .mkMap, none, []⟩, ⟨(some 10), .build [(.m none), (.m none)] [(0, 1, (.t 8)), (1, 1, (.t 9))], none, []⟩, ⟨(some 11), .box (.t 10), none, []⟩, ⟨(some 3), .mv (.t 11), none, []⟩]) 
  (.seq 
  (.seq (.region [⟨(some 12), .fieldAddr 0 none (.t 1), none, []⟩, ⟨(some 13), .load none (.t 12), none, []⟩, ⟨(some 14), .len 1 (.t 13), none, []⟩, ⟨(some 15), .mv (.c (.i .i64 0)), none, []⟩]) (.block 0 (.loop 
  (.seq (.region [⟨(some 16), .bin .lss (.t 15) (.t 14), none, []⟩]) 
  (.seq (.cond (.t 16) .skip (.exit 0)) 
  (.seq (.block 1 
  (.seq (.region [⟨(some 17), .idxSl (some 5) (.t 13) (.t 15), none, []⟩, ⟨(some 18), .load (some 5) (.t 17), none, []⟩, ⟨(some 5), .alloc (.ag [(.s []), (.i .u8 0), (.s []), .nilsl, .nilsl]), none, []⟩, ⟨none, .store (some 5) (.t 5) (.t 18), none, []⟩]) (.draw [⟨(some 19), .mv (.t 3), none, []⟩, ⟨(some 20), .nilCheck (.t 19), none, []⟩, ⟨(some 21), .fieldAddr 0 none (.t 20), none, []⟩, ⟨(some 22), .load none (.t 21), none, []⟩, ⟨(some 23), .fieldAddr 0 none (.t 5), none, []⟩, ⟨(some 24), .load none (.t 23), none, []⟩, ⟨(some 25), .fieldAddr 1 (some 4) (.t 5), none, []⟩, ⟨(some 26), .load (some 4) (.t 25), none, []⟩, ⟨none, .mapUpd (.inl 1) (.t 22) (.t 24) (.t 26), none, []⟩]))) (.region [⟨(some 27), .bin .add (.t 15) (.c (.i .i64 1)), none, []⟩, ⟨(some 15), .mv (.t 27), none, []⟩]))))))) 
  (.seq 
  (.seq (.region [⟨(some 28), .fieldAddr 1 none (.t 1), none, []⟩, ⟨(some 29), .load none (.t 28), none, []⟩, ⟨(some 30), .len 1 (.t 29), none, []⟩, ⟨(some 31), .mv (.c (.i .i64 0)), none, []⟩]) (.block 2 (.loop 
  (.seq (.region [⟨(some 32), .bin .lss (.t 31) (.t 30), none, []⟩]) 
  (.seq (.cond (.t 32) .skip (.exit 2)) 
  (.seq (.block 3 
  (.seq (.region [⟨(some 33), .idxSl (some 4) (.t 29) (.t 31), none, []⟩, ⟨(some 34), .load (some 4) (.t 33), none, []⟩, ⟨(some 7), .alloc (.ag [(.s []), (.b false), (.s []), .nilsl]), none, []⟩, ⟨none, .store (some 4) (.t 7) (.t 34), none, []⟩]) (.draw [⟨(some 35), .mv (.t 3), none, []⟩, ⟨(some 36), .nilCheck (.t 35), none, []⟩, ⟨(some 37), .fieldAddr 1 none (.t 36), none, []⟩, ⟨(some 38), .load none (.t 37), none, []⟩, ⟨(some 39), .fieldAddr 0 none (.t 7), none, []⟩, ⟨(some 40), .load none (.t 39), none, []⟩, ⟨(some 41), .fieldAddr 1 (some 3) (.t 7), none, []⟩, ⟨(some 42), .load (some 3) (.t 41), none, []⟩, ⟨none, .mapUpd (.inl 1) (.t 38) (.t 40) (.t 42), none, []⟩]))) (.region [⟨(some 43), .bin .add (.t 31) (.c (.i .i64 1)), none, []⟩, ⟨(some 31), .mv (.t 43), none, []⟩]))))))) 
  (.seq (.region [⟨(some 44), .mv (.t 3), none, []⟩, ⟨(some 2), .mv (.t 44), none, []⟩]) .ret))))))⟩
def c125 : AFunc := ⟨2, 119, [(4, none)], (some 
  (.seq (.region [⟨(some 3), .box (.t 1), none, []⟩, ⟨(some 4), .mv (.c (.i .i64 0)), none, []⟩]) 
  (.seq (.draw [⟨(some 14), .fieldAddr 0 (some 4) (.t 3), none, []⟩, ⟨(some 15), .load (some 4) (.t 14), none, [6]⟩, ⟨(some 16), .fieldAddr 4 (some 4) (.t 3), none, []⟩, ⟨(some 17), .load (some 4) (.t 16), none, [6, 7]⟩, ⟨(some 5), .alloc (.ag [(.i .u8 0), (.s []), .nilsl, .nilsl]), none, []⟩, ⟨(some 6), .alloc (.ag [(.i .u8 0), (.s []), .nilsl, .nilsl]), none, []⟩, ⟨none, .store (some 4) (.t 5) (.t 15), none, []⟩, ⟨none, .store (some 4) (.t 6) (.t 17), none, []⟩]) 
  (.seq 
  (.seq (.region [⟨(some 18), .fieldAddr 0 none (.t 5), none, []⟩, ⟨(some 19), .load none (.t 18), none, []⟩]) (.block 0 
  (.seq (.region [⟨(some 21), .bin .eql (.t 19) (.c (.i .u8 16)), none, []⟩, ⟨(some 20), .mv (.t 21), none, []⟩]) (.cond (.t 20) 
  (.seq (.region [⟨(some 4), .mv (.c (.i .i64 0)), none, []⟩]) .ret) 
  (.seq (.region [⟨(some 23), .bin .eql (.t 19) (.c (.i .u8 15)), none, []⟩, ⟨(some 22), .mv (.t 23), none, []⟩]) (.cond (.t 22) 
  (.seq (.region [⟨(some 25), .load (some 9) (.t 3), none, []⟩, ⟨(some 26), .load (some 4) (.t 6), none, []⟩, ⟨(some 27), .call (.fn 163) [(.t 25), (.t 26), (.c .nilsl)], none, []⟩, ⟨(some 24), .mv (.t 27), none, []⟩, ⟨(some 28), .extract (.t 24) 0, none, []⟩, ⟨(some 29), .extract (.t 24) 1, none, []⟩, ⟨(some 7), .alloc (.ag [(.i .u8 0), (.s []), .nilsl, .nilsl]), none, []⟩, ⟨none, .store (some 4) (.t 7) (.t 28), none, []⟩, ⟨(some 8), .mv (.t 29), none, []⟩]) 
  (.seq 
  (.seq (.region [⟨(some 30), .mv (.t 8), none, []⟩, ⟨(some 31), .not (.t 30), none, []⟩]) (.cond (.t 31) 
  (.seq (.region [⟨(some 4), .mv (.c (.i .i64 70)), none, []⟩]) .ret) .skip)) 
  (.seq (.draw [⟨(some 33), .mv (.t 0), none, []⟩, ⟨(some 34), .nilCheck (.t 33), none, []⟩, ⟨(some 35), .fieldAddr 0 none (.t 34), none, []⟩, ⟨(some 36), .load none (.t 35), none, [11]⟩, ⟨(some 37), .fieldAddr 1 none (.t 5), none, []⟩, ⟨(some 38), .load none (.t 37), none, [11]⟩, ⟨(some 39), .lookup (.inl 1) (.t 36) (.t 38) (.ag [(.i .u8 0), (.s []), .nilsl, .nilsl]) true, none, [11]⟩, ⟨(some 32), .mv (.t 39), none, []⟩, ⟨(some 40), .extract (.t 32) 0, none, []⟩, ⟨(some 41), .extract (.t 32) 1, none, []⟩, ⟨(some 9), .alloc (.ag [(.i .u8 0), (.s []), .nilsl, .nilsl]), none, []⟩, ⟨none, .store (some 4) (.t 9) (.t 40), none, []⟩, ⟨(some 8), .mv (.t 41), none, []⟩]) 
  (.seq 
  (.seq (.region [⟨(some 42), .mv (.t 8), none, []⟩, ⟨(some 43), .not (.t 42), none, []⟩]) (.cond (.t 43) (.draw [⟨(some 44), .mv (.t 0), none, []⟩, ⟨(some 45), .nilCheck (.t 44), none, []⟩, ⟨(some 46), .fieldAddr 0 none (.t 45), none, []⟩, ⟨(some 47), .load none (.t 46), none, []⟩, ⟨(some 48), .fieldAddr 1 none (.t 5), none, []⟩, ⟨(some 49), .load none (.t 48), none, []⟩, ⟨(some 50), .load (some 4) (.t 7), none, []⟩, ⟨none, .mapUpd (.inl 1) (.t 47) (.t 49) (.t 50), none, []⟩]) 
  (.seq (.region [⟨(some 51), .load (some 4) (.t 9), none, []⟩, ⟨(some 52), .load (some 4) (.t 7), none, []⟩, ⟨(some 53), .call (.fn 164) [(.t 51), (.t 52), (.c .nilsl)], none, []⟩, ⟨(some 54), .not (.t 53), none, []⟩]) (.cond (.t 54) 
  (.seq (.region [⟨(some 4), .mv (.c (.i .i64 70)), none, []⟩]) .ret) .skip)))) 
  (.seq (.region [⟨(some 4), .mv (.c (.i .i64 0)), none, []⟩]) .ret))))) .skip)))))) 
  (.seq 
  (.seq (.region [⟨(some 55), .fieldAddr 0 none (.t 5), none, []⟩, ⟨(some 56), .load none (.t 55), none, []⟩, ⟨(some 57), .fieldAddr 0 none (.t 6), none, []⟩, ⟨(some 58), .load none (.t 57), none, []⟩, ⟨(some 59), .bin .neq (.t 56) (.t 58), none, []⟩, ⟨(some 60), .mv (.t 59), none, []⟩, ⟨(some 61), .fieldAddr 2 none (.t 5), (some (60, false)), []⟩, ⟨(some 62), .load none (.t 61), (some (60, false)), []⟩, ⟨(some 63), .len 1 (.t 62), (some (60, false)), []⟩, ⟨(some 64), .fieldAddr 2 none (.t 6), (some (60, false)), []⟩, ⟨(some 65), .load none (.t 64), (some (60, false)), []⟩, ⟨(some 66), .len 1 (.t 65), (some (60, false)), []⟩, ⟨(some 67), .bin .neq (.t 63) (.t 66), (some (60, false)), []⟩, ⟨(some 68), .pick (.t 60) (.c (.b true)) (.t 67), none, []⟩, ⟨(some 69), .mv (.t 68), none, []⟩, ⟨(some 70), .fieldAddr 3 none (.t 5), (some (69, false)), []⟩, ⟨(some 71), .load none (.t 70), (some (69, false)), []⟩, ⟨(some 72), .len 1 (.t 71), (some (69, false)), []⟩, ⟨(some 73), .fieldAddr 3 none (.t 6), (some (69, false)), []⟩, ⟨(some 74), .load none (.t 73), (some (69, false)), []⟩, ⟨(some 75), .len 1 (.t 74), (some (69, false)), []⟩, ⟨(some 76), .bin .neq (.t 72) (.t 75), (some (69, false)), []⟩, ⟨(some 77), .pick (.t 69) (.c (.b true)) (.t 76), none, []⟩, ⟨(some 78), .mv (.t 77), none, []⟩, ⟨(some 79), .fieldAddr 1 none (.t 5), (some (78, false)), []⟩, ⟨(some 80), .load none (.t 79), (some (78, false)), []⟩, ⟨(some 81), .fieldAddr 1 none (.t 6), (some (78, false)), []⟩, ⟨(some 82), .load none (.t 81), (some (78, false)), []⟩, ⟨(some 83), .bin .neq (.t 80) (.t 82), (some (78, false)), []⟩, ⟨(some 84), .mv (.t 83), (some (78, false)), []⟩, ⟨(some 85), .load (some 4) (.t 5), (some (84, true)), []⟩, ⟨(some 86), .call (.fn 165) [(.t 85)], (some (84, true)), []⟩, ⟨(some 87), .not (.t 86), (some (84, true)), []⟩, ⟨(some 88), .pick (.t 84) (.t 87) (.c (.b false)), (some (78, false)), []⟩, ⟨(some 89), .pick (.t 78) (.c (.b true)) (.t 88), none, []⟩]) (.cond (.t 89) 
  (.seq (.region [⟨(some 4), .mv (.c (.i .i64 70)), none, []⟩]) .ret) .skip)) 
  (.seq 
  (.seq (.region [⟨(some 90), .fieldAddr 2 none (.t 5), none, []⟩, ⟨(some 91), .load none (.t 90), none, []⟩, ⟨(some 92), .len 1 (.t 91), none, []⟩, ⟨(some 93), .mv (.c (.i .i64 0)), none, []⟩]) (.block 1 (.loop 
  (.seq (.region [⟨(some 94), .bin .lss (.t 93) (.t 92), none, []⟩]) 
  (.seq (.cond (.t 94) .skip (.exit 1)) 
  (.seq (.block 2 
  (.seq (.region [⟨(some 95), .mv (.t 93), none, []⟩, ⟨(some 96), .idxSl (some 3) (.t 91) (.t 93), none, []⟩, ⟨(some 97), .load (some 3) (.t 96), none, []⟩, ⟨(some 11), .alloc (.ag [(.b false), (.s []), .nilsl]), none, []⟩, ⟨(some 10), .mv (.t 95), none, []⟩, ⟨none, .store (some 3) (.t 11) (.t 97), none, []⟩]) 
  (.seq (.draw [⟨(some 99), .load (some 9) (.t 3), none, [7]⟩, ⟨(some 100), .fieldAddr 2 none (.t 6), none, []⟩, ⟨(some 101), .load none (.t 100), none, [7]⟩, ⟨(some 102), .mv (.t 10), none, []⟩, ⟨(some 103), .idxSl (some 3) (.t 101) (.t 102), none, []⟩, ⟨(some 104), .load (some 3) (.t 103), none, [7]⟩, ⟨(some 12), .alloc (.ag [(.b false), (.s []), .nilsl]), none, []⟩, ⟨(some 105), .call (.fn 166) [(.t 99), (.t 104), (.c .nilsl)], none, []⟩, ⟨(some 98), .mv (.t 105), none, []⟩, ⟨(some 106), .extract (.t 98) 0, none, []⟩, ⟨(some 107), .extract (.t 98) 1, none, []⟩, ⟨none, .store (some 3) (.t 12) (.t 106), none, []⟩, ⟨(some 13), .mv (.t 107), none, []⟩]) 
  (.seq (.region [⟨(some 108), .mv (.t 13), none, []⟩, ⟨(some 109), .not (.t 108), none, []⟩, ⟨(some 110), .mv (.t 109), none, []⟩, ⟨(some 111), .mv (.t 0), (some (110, false)), []⟩, ⟨(some 112), .load (some 9) (.t 3), (some (110, false)), []⟩, ⟨(some 113), .load (some 3) (.t 11), (some (110, false)), []⟩, ⟨(some 114), .load (some 3) (.t 12), (some (110, false)), []⟩, ⟨(some 115), .call (.fn 167) [(.t 111), (.t 112), (.t 113), (.t 114)], (some (110, false)), []⟩, ⟨(some 116), .not (.t 115), (some (110, false)), []⟩, ⟨(some 117), .pick (.t 110) (.c (.b true)) (.t 116), none, []⟩]) (.cond (.t 117) 
  (.seq (.region [⟨(some 4), .mv (.c (.i .i64 70)), none, []⟩]) .ret) .skip))))) (.region [⟨(some 118), .bin .add (.t 93) (.c (.i .i64 1)), none, []⟩, ⟨(some 93), .mv (.t 118), none, []⟩]))))))) 
  (.seq (.region [⟨(some 4), .mv (.c (.i .i64 0)), none, []⟩]) .ret)))))))⟩
def c126 : AFunc := ⟨2, 95, [(4, none)], (some 
  (.seq (.region [⟨(some 3), .box (.t 1), none, []⟩, ⟨(some 4), .mv (.c (.i .i64 0)), none, []⟩]) 
  (.seq 
  (.seq (.region [⟨(some 13), .fieldAddr 0 (some 4) (.t 3), none, []⟩, ⟨(some 14), .fieldAddr 0 none (.t 13), none, []⟩, ⟨(some 15), .load none (.t 14), none, []⟩, ⟨(some 16), .bin .neq (.t 15) (.c (.i .u8 16)), none, []⟩]) (.cond (.t 16) 
  (.seq (.region [⟨(some 4), .mv (.c (.i .i64 0)), none, []⟩]) .ret) .skip)) 
  (.seq (.draw [⟨(some 18), .mv (.t 0), none, []⟩, ⟨(some 19), .nilCheck (.t 18), none, []⟩, ⟨(some 20), .fieldAddr 0 none (.t 19), none, []⟩, ⟨(some 21), .load none (.t 20), none, [12]⟩, ⟨(some 22), .fieldAddr 0 (some 4) (.t 3), none, []⟩, ⟨(some 23), .fieldAddr 1 none (.t 22), none, []⟩, ⟨(some 24), .load none (.t 23), none, [12]⟩, ⟨(some 25), .lookup (.inl 1) (.t 21) (.t 24) (.ag [(.i .u8 0), (.s []), .nilsl, .nilsl]) true, none, [12]⟩, ⟨(some 17), .mv (.t 25), none, []⟩, ⟨(some 26), .extract (.t 17) 0, none, []⟩, ⟨(some 27), .extract (.t 17) 1, none, []⟩, ⟨(some 5), .alloc (.ag [(.i .u8 0), (.s []), .nilsl, .nilsl]), none, []⟩, ⟨none, .store (some 4) (.t 5) (.t 26), none, []⟩, ⟨(some 6), .mv (.t 27), none, []⟩]) 
  (.seq 
  (.seq (.region [⟨(some 28), .mv (.t 6), none, []⟩, ⟨(some 29), .not (.t 28), none, []⟩]) (.cond (.t 29) 
  (.seq (.region [⟨(some 4), .mv (.c (.i .i64 71)), none, []⟩]) .ret) .skip)) 
  (.seq (.region [⟨(some 31), .load (some 9) (.t 3), none, []⟩, ⟨(some 32), .fieldAddr 4 (some 4) (.t 3), none, []⟩, ⟨(some 33), .load (some 4) (.t 32), none, []⟩, ⟨(some 34), .call (.fn 163) [(.t 31), (.t 33), (.c .nilsl)], none, []⟩, ⟨(some 30), .mv (.t 34), none, []⟩, ⟨(some 35), .extract (.t 30) 0, none, []⟩, ⟨(some 36), .extract (.t 30) 1, none, []⟩, ⟨(some 7), .alloc (.ag [(.i .u8 0), (.s []), .nilsl, .nilsl]), none, []⟩, ⟨none, .store (some 4) (.t 7) (.t 35), none, []⟩, ⟨(some 6), .mv (.t 36), none, []⟩]) 
  (.seq 
  (.seq (.region [⟨(some 37), .mv (.t 6), none, []⟩, ⟨(some 38), .not (.t 37), none, []⟩]) (.cond (.t 38) 
  (.seq (.region [⟨(some 4), .mv (.c (.i .i64 70)), none, []⟩]) .ret) .skip)) 
  (.seq (.region [⟨(some 40), .fieldAddr 0 (some 4) (.t 3), none, []⟩, ⟨(some 41), .load (some 4) (.t 40), none, []⟩, ⟨(some 42), .call (.fn 168) [(.t 41)], none, []⟩, ⟨(some 39), .mv (.t 42), none, []⟩, ⟨(some 43), .extract (.t 39) 0, none, []⟩, ⟨(some 44), .extract (.t 39) 1, none, []⟩, ⟨(some 8), .mv (.t 43), none, []⟩, ⟨(some 9), .mv (.t 44), none, []⟩]) 
  (.seq 
  (.seq (.region [⟨(some 45), .load (some 4) (.t 5), none, []⟩, ⟨(some 46), .mv (.t 8), none, []⟩, ⟨(some 47), .call (.fn 169) [(.t 45), (.t 46)], none, []⟩, ⟨(some 10), .mv (.t 47), none, []⟩]) 
  (.seq (.region [⟨(some 48), .mv (.t 10), none, []⟩, ⟨(some 49), .bin .gtr (.t 48) (.c (.i .i64 0)), none, []⟩]) (.cond (.t 49) 
  (.seq (.region [⟨(some 51), .mv (.t 0), none, []⟩, ⟨(some 52), .nilCheck (.t 51), none, []⟩, ⟨(some 53), .fieldAddr 1 none (.t 52), none, []⟩, ⟨(some 54), .load none (.t 53), none, []⟩, ⟨(some 55), .mv (.t 9), none, []⟩, ⟨(some 56), .lookup (.inl 1) (.t 54) (.t 55) (.ag [(.b false), (.s []), .nilsl]) true, none, []⟩, ⟨(some 50), .mv (.t 56), none, []⟩, ⟨(some 57), .extract (.t 50) 0, none, []⟩, ⟨(some 58), .extract (.t 50) 1, none, []⟩, ⟨(some 11), .alloc (.ag [(.b false), (.s []), .nilsl]), none, []⟩, ⟨none, .store (some 3) (.t 11) (.t 57), none, []⟩, ⟨(some 12), .mv (.t 58), none, []⟩]) 
  (.seq 
  (.seq (.region [⟨(some 59), .mv (.t 12), none, []⟩, ⟨(some 60), .not (.t 59), none, []⟩]) (.cond (.t 60) 
  (.seq (.region [⟨(some 62), .load (some 4) (.t 5), none, []⟩, ⟨(some 63), .load (some 4) (.t 7), none, []⟩, ⟨(some 64), .mv (.t 8), none, []⟩, ⟨(some 65), .call (.fn 170) [(.t 62), (.t 63), (.t 64)], none, []⟩, ⟨(some 61), .mv (.t 65), none, []⟩, ⟨(some 66), .extract (.t 61) 0, none, []⟩, ⟨(some 67), .extract (.t 61) 1, none, []⟩, ⟨none, .store (some 3) (.t 11) (.t 66), none, []⟩, ⟨(some 12), .mv (.t 67), none, []⟩]) 
  (.seq 
  (.seq (.region [⟨(some 68), .mv (.t 12), none, []⟩, ⟨(some 69), .not (.t 68), none, []⟩]) (.cond (.t 69) 
  (.seq (.region [⟨(some 4), .mv (.c (.i .i64 70)), none, []⟩]) .ret) .skip)) (.draw [⟨(some 70), .mv (.t 0), none, []⟩, ⟨(some 71), .nilCheck (.t 70), none, []⟩, ⟨(some 72), .fieldAddr 1 none (.t 71), none, []⟩, ⟨(some 73), .load none (.t 72), none, []⟩, ⟨(some 74), .mv (.t 9), none, []⟩, ⟨(some 75), .load (some 3) (.t 11), none, []⟩, ⟨none, .mapUpd (.inl 1) (.t 73) (.t 74) (.t 75), none, []⟩]))) .skip)) 
  (.seq 
  (.seq (.draw [⟨(some 76), .load (some 4) (.t 5), none, []⟩, ⟨(some 78), .mv (.t 10), none, []⟩, ⟨(some 79), .load (some 3) (.t 11), none, [5]⟩, ⟨(some 84), .load (some 4) (.t 7), none, [5, 9]⟩, ⟨(some 77), .call (.fn 171) [(.t 76)], none, []⟩, ⟨(some 80), .call (.fn 172) [(.t 79)], none, []⟩, ⟨(some 81), .bin .sub (.t 80) (.c (.i .i64 1)), none, []⟩, ⟨(some 82), .bin .mul (.t 78) (.t 81), none, []⟩, ⟨(some 83), .bin .add (.t 77) (.t 82), none, []⟩, ⟨(some 85), .call (.fn 171) [(.t 84)], none, []⟩, ⟨(some 86), .bin .neq (.t 83) (.t 85), none, []⟩]) (.cond (.t 86) 
  (.seq (.region [⟨(some 4), .mv (.c (.i .i64 70)), none, []⟩]) .ret) .skip)) (.region [⟨(some 87), .load (some 4) (.t 5), none, []⟩, ⟨(some 88), .mv (.t 8), none, []⟩, ⟨(some 89), .load (some 3) (.t 11), none, []⟩, ⟨(some 90), .call (.fn 173) [(.t 87), (.t 88), (.t 89)], none, []⟩, ⟨none, .store (some 4) (.t 5) (.t 90), none, []⟩])))) .skip))) 
  (.seq 
  (.seq (.region [⟨(some 91), .load (some 4) (.t 5), none, []⟩, ⟨(some 92), .load (some 4) (.t 7), none, []⟩, ⟨(some 93), .call (.fn 164) [(.t 91), (.t 92), (.c .nilsl)], none, []⟩, ⟨(some 94), .not (.t 93), none, []⟩]) (.cond (.t 94) 
  (.seq (.region [⟨(some 4), .mv (.c (.i .i64 70)), none, []⟩]) .ret) .skip)) 
  (.seq (.region [⟨(some 4), .mv (.c (.i .i64 0)), none, []⟩]) .ret)))))))))))⟩
def c127 : AFunc := ⟨2, 6, [(4, none)], (some 
  (.seq (.region [⟨(some 2), .box (.t 0), none, []⟩, ⟨(some 3), .box (.t 1), none, []⟩, ⟨(some 4), .mv (.c .nf), none, []⟩]) 
  (.seq (.region [⟨(some 5), .mkFunc (.func 174) [] [(.t 2), (.t 3)], none, []⟩, ⟨(some 4), .mv (.t 5), none, []⟩]) .ret)))⟩
def c128 : AFunc := ⟨1, 61, [(2, (some (some 2)))], (some 
  (.seq (.region [⟨(some 2), .alloc (.ag [.nilsl, .nilsl]), none, []⟩]) 
  (.seq (.region [⟨(some 3), .alloc (.ag [.nilsl, .nilsl]), none, []⟩]) 
  (.seq 
  (.seq (.region [⟨(some 8), .mv (.t 0), none, []⟩, ⟨(some 9), .nilCheck (.t 8), none, []⟩, ⟨(some 10), .fieldAddr 0 none (.t 9), none, []⟩, ⟨(some 11), .load none (.t 10), none, []⟩, ⟨(some 12), .call (.fn 176) [(.t 11)], none, []⟩, ⟨(some 13), .call (.fn 110) [(.t 12)], none, []⟩, ⟨(some 14), .len 1 (.t 13), none, []⟩, ⟨(some 15), .mv (.c (.i .i64 0)), none, []⟩]) (.block 0 (.loop 
  (.seq (.region [⟨(some 16), .bin .lss (.t 15) (.t 14), none, []⟩]) 
  (.seq (.cond (.t 16) .skip (.exit 0)) 
  (.seq (.block 1 
  (.seq (.region [⟨(some 17), .idxSl none (.t 13) (.t 15), none, []⟩, ⟨(some 18), .load none (.t 17), none, []⟩, ⟨(some 5), .mv (.t 18), none, []⟩]) (.draw [⟨(some 19), .fieldAddr 0 none (.t 3), none, []⟩, ⟨(some 20), .load none (.t 19), none, [12]⟩, ⟨(some 21), .mv (.t 5), none, []⟩, ⟨(some 22), .mv (.t 0), none, []⟩, ⟨(some 23), .nilCheck (.t 22), none, []⟩, ⟨(some 24), .fieldAddr 0 none (.t 23), none, []⟩, ⟨(some 25), .load none (.t 24), none, []⟩, ⟨(some 26), .mv (.t 5), none, []⟩, ⟨(some 27), .lookup (.inl 1) (.t 25) (.t 26) (.ag [(.i .u8 0), (.s []), .nilsl, .nilsl]) false, none, []⟩, ⟨(some 28), .call (.fn 80) [(.t 27)], none, []⟩, ⟨(some 29), .build [(.s []), (.i .u8 0), (.s []), .nilsl, .nilsl] [(0, 1, (.t 21)), (1, 4, (.t 28))], none, []⟩, ⟨(some 30), .buildSlice (some 5) 1 [(.s []), (.i .u8 0), (.s []), .nilsl, .nilsl] [(0, (.t 29))], none, []⟩, ⟨(some 31), .append (some 5) 88 (.t 20) (.t 30), none, []⟩, ⟨(some 32), .fieldAddr 0 none (.t 3), none, []⟩, ⟨none, .store none (.t 32) (.t 31), none, []⟩]))) (.region [⟨(some 33), .bin .add (.t 15) (.c (.i .i64 1)), none, []⟩, ⟨(some 15), .mv (.t 33), none, []⟩]))))))) 
  (.seq 
  (.seq (.region [⟨(some 34), .mv (.t 0), none, []⟩, ⟨(some 35), .nilCheck (.t 34), none, []⟩, ⟨(some 36), .fieldAddr 1 none (.t 35), none, []⟩, ⟨(some 37), .load none (.t 36), none, []⟩, ⟨(some 38), .call (.fn 177) [(.t 37)], none, []⟩, ⟨(some 39), .call (.fn 110) [(.t 38)], none, []⟩, ⟨(some 40), .len 1 (.t 39), none, []⟩, ⟨(some 41), .mv (.c (.i .i64 0)), none, []⟩]) (.block 2 (.loop 
  (.seq (.region [⟨(some 42), .bin .lss (.t 41) (.t 40), none, []⟩]) 
  (.seq (.cond (.t 42) .skip (.exit 2)) 
  (.seq (.block 3 
  (.seq (.region [⟨(some 43), .idxSl none (.t 39) (.t 41), none, []⟩, ⟨(some 44), .load none (.t 43), none, []⟩, ⟨(some 7), .mv (.t 44), none, []⟩]) (.draw [⟨(some 45), .fieldAddr 1 none (.t 3), none, []⟩, ⟨(some 46), .load none (.t 45), none, [12]⟩, ⟨(some 47), .mv (.t 7), none, []⟩, ⟨(some 48), .mv (.t 0), none, []⟩, ⟨(some 49), .nilCheck (.t 48), none, []⟩, ⟨(some 50), .fieldAddr 1 none (.t 49), none, []⟩, ⟨(some 51), .load none (.t 50), none, []⟩, ⟨(some 52), .mv (.t 7), none, []⟩, ⟨(some 53), .lookup (.inl 1) (.t 51) (.t 52) (.ag [(.b false), (.s []), .nilsl]) false, none, []⟩, ⟨(some 54), .call (.fn 178) [(.t 53)], none, []⟩, ⟨(some 55), .build [(.s []), (.b false), (.s []), .nilsl] [(0, 1, (.t 47)), (1, 3, (.t 54))], none, []⟩, ⟨(some 56), .buildSlice (some 4) 1 [(.s []), (.b false), (.s []), .nilsl] [(0, (.t 55))], none, []⟩, ⟨(some 57), .append (some 4) 64 (.t 46) (.t 56), none, []⟩, ⟨(some 58), .fieldAddr 1 none (.t 3), none, []⟩, ⟨none, .store none (.t 58) (.t 57), none, []⟩]))) (.region [⟨(some 59), .bin .add (.t 41) (.c (.i .i64 1)), none, []⟩, ⟨(some 41), .mv (.t 59), none, []⟩]))))))) 
  (.seq (.region [⟨(some 60), .load (some 2) (.t 3), none, []⟩, ⟨none, .store (some 2) (.t 2) (.t 60), none, []⟩]) .ret))))))⟩
def c129 : AFunc := ⟨1, 21, [(2, none)], (some 
  (.seq (.region [⟨(some 1), .box (.t 0), none, []⟩, ⟨(some 2), .mv (.c .nilsl), none, []⟩]) 
  (.seq (.region [⟨(some 5), .mkMap, none, []⟩, ⟨(some 3), .alloc (.m none), none, []⟩, ⟨none, .store none (.t 3) (.t 5), none, []⟩]) 
  (.seq 
  (.seq (.region [⟨(some 6), .load (some 4) (.t 1), none, []⟩, ⟨(some 7), .call (.fn 63) [(.t 6)], none, []⟩]) (.block 0 (.rangeFunc (.t 7) [8] (.region [⟨(some 4), .alloc (.ag [(.i .u8 0), (.s []), .nilsl, .nilsl]), none, []⟩, ⟨none, .store (some 4) (.t 4) (.t 8), none, []⟩]) (.block 1 
  (.seq (.region [⟨(some 9), .fieldAddr 0 none (.t 4), none, []⟩, ⟨(some 10), .load none (.t 9), none, []⟩, ⟨(some 11), .bin .eql (.t 10) (.c (.i .u8 1)), none, []⟩]) (.cond (.t 11) (.region [⟨(some 12), .load none (.t 3), none, []⟩, ⟨(some 13), .fieldAddr 1 none (.t 4), none, []⟩, ⟨(some 14), .load none (.t 13), none, []⟩, ⟨(some 15), .fieldAddr 2 none (.t 4), none, []⟩, ⟨(some 16), .load none (.t 15), none, []⟩, ⟨(some 17), .len 1 (.t 16), none, []⟩, ⟨(some 18), .build [(.s []), (.i .i64 0)] [(0, 1, (.t 14)), (1, 1, (.t 17))], none, []⟩, ⟨none, .mapUpd (.inr [1, 0]) (.t 12) (.t 18) (.c (.b true)), none, []⟩]) .skip)))))) 
  (.seq (.region [⟨(some 19), .load none (.t 3), none, []⟩, ⟨(some 20), .call (.fn 179) [(.t 19)], none, []⟩, ⟨(some 2), .mv (.t 20), none, []⟩]) .ret)))))⟩
def c130 : AFunc := ⟨1, 15, [(2, none)], (some 
  (.seq (.region [⟨(some 1), .box (.t 0), none, []⟩, ⟨(some 2), .mv (.c .nilsl), none, []⟩]) 
  (.seq (.region [⟨(some 5), .mkMap, none, []⟩, ⟨(some 3), .alloc (.m none), none, []⟩, ⟨none, .store none (.t 3) (.t 5), none, []⟩]) 
  (.seq 
  (.seq (.region [⟨(some 6), .load (some 4) (.t 1), none, []⟩, ⟨(some 7), .call (.fn 63) [(.t 6)], none, []⟩]) (.block 0 (.rangeFunc (.t 7) [8] (.region [⟨(some 4), .alloc (.ag [(.i .u8 0), (.s []), .nilsl, .nilsl]), none, []⟩, ⟨none, .store (some 4) (.t 4) (.t 8), none, []⟩]) (.block 1 (.region [⟨(some 9), .fieldAddr 2 none (.t 4), none, []⟩, ⟨(some 10), .load none (.t 9), none, []⟩, ⟨(some 11), .mkFunc (.func 181) [] [(.t 3)], none, []⟩, ⟨(some 12), .call (.fn 180) [(.t 10), (.t 11)], none, []⟩]))))) 
  (.seq (.region [⟨(some 13), .load none (.t 3), none, []⟩, ⟨(some 14), .call (.fn 179) [(.t 13)], none, []⟩, ⟨(some 2), .mv (.t 14), none, []⟩]) .ret)))))⟩
def c131 : AFunc := ⟨3, 37, [(6, (some (some 4))), (7, (some none)), (8, (some none))], (some 
  (.seq (.region [⟨(some 6), .alloc (.ag [(.i .u8 0), (.s []), .nilsl, .nilsl]), none, []⟩, ⟨(some 7), .alloc (.i .i64 0), none, []⟩, ⟨(some 8), .alloc (.i .i64 0), none, []⟩]) 
  (.seq (.region [⟨(some 12), .mv (.t 0), none, []⟩, ⟨(some 13), .call (.fn 182) [(.t 12)], none, []⟩, ⟨(some 11), .mv (.t 13), none, []⟩, ⟨(some 14), .extract (.t 11) 0, none, []⟩, ⟨(some 15), .extract (.t 11) 1, none, []⟩, ⟨(some 16), .extract (.t 11) 2, none, []⟩, ⟨(some 9), .mv (.t 14), none, []⟩, ⟨none, .store none (.t 7) (.t 15), none, []⟩, ⟨none, .store none (.t 8) (.t 16), none, []⟩]) 
  (.seq 
  (.seq (.region [⟨(some 17), .load none (.t 8), none, []⟩, ⟨(some 18), .bin .neq (.t 17) (.c (.i .i64 0)), none, []⟩]) (.cond (.t 18) 
  (.seq (.draw [⟨(some 19), .load (some 4) (.t 6), none, []⟩, ⟨(some 20), .load none (.t 7), none, [4]⟩, ⟨(some 21), .load none (.t 8), none, [4, 5]⟩, ⟨none, .store (some 4) (.t 6) (.t 19), none, []⟩, ⟨none, .store none (.t 7) (.t 20), none, []⟩, ⟨none, .store none (.t 8) (.t 21), none, []⟩]) .ret) .skip)) 
  (.seq (.region [⟨(some 22), .mkFunc (.func 183) [] [(.t 6), (.t 7), (.t 8)], none, []⟩, ⟨none, .dfr (.val (.t 22)) [], none, []⟩]) 
  (.seq (.region [⟨(some 23), .mv (.t 9), none, []⟩, ⟨(some 24), .mv (.t 1), none, []⟩, ⟨(some 25), .build [.nilsl, (.i .i64 0), (.i .i64 0), (.b false)] [(0, 1, (.t 23)), (3, 1, (.t 24))], none, []⟩, ⟨(some 26), .box (.t 25), none, []⟩, ⟨(some 10), .mv (.t 26), none, []⟩]) 
  (.seq (.region [⟨(some 27), .mv (.t 2), none, []⟩, ⟨(some 28), .mv (.t 10), none, []⟩, ⟨(some 29), .call (.val (.t 27)) [(.t 28)], none, []⟩, ⟨none, .store (some 4) (.t 6) (.t 29), none, []⟩]) 
  (.seq 
  (.seq (.region [⟨(some 30), .mv (.t 10), none, []⟩, ⟨(some 31), .call (.fn 184) [(.t 30)], none, []⟩, ⟨(some 32), .field 0 none (.t 31), none, []⟩, ⟨(some 33), .bin .neq (.t 32) (.c (.i .u8 5)), none, []⟩]) (.cond (.t 33) (.region [⟨(some 34), .mv (.t 10), none, []⟩, ⟨(some 35), .call (.fn 185) [(.t 34), (.c (.i .i64 50))], none, []⟩]) .skip)) 
  (.seq (.region [⟨(some 36), .load (some 4) (.t 6), none, []⟩, ⟨none, .store (some 4) (.t 6) (.t 36), none, []⟩, ⟨none, .store none (.t 7) (.c (.i .i64 0)), none, []⟩, ⟨none, .store none (.t 8) (.c (.i .i64 0)), none, []⟩]) .ret)))))))))⟩
def c132 : AFunc := ⟨1, 5, [(2, (some (some 4)))], (some 
  (.seq (.region [⟨(some 2), .alloc (.ag [(.i .u8 0), (.s []), .nilsl, .nilsl]), none, []⟩]) 
  (.seq (.region [⟨(some 3), .mv (.t 0), none, []⟩, ⟨(some 4), .call (.fn 186) [(.t 3), (.c (.i .i64 0))], none, []⟩, ⟨none, .store (some 4) (.t 2) (.t 4), none, []⟩]) .ret)))⟩
def c136 : AFunc := ⟨2, 15, [(4, none), (5, none)], (some 
  (.seq (.region [⟨(some 4), .mv (.c (.s [])), none, []⟩, ⟨(some 5), .mv (.c (.b false)), none, []⟩]) 
  (.seq 
  (.seq (.region [⟨(some 6), .mv (.t 0), none, []⟩, ⟨(some 7), .mv (.t 1), none, []⟩, ⟨(some 8), .call (.fn 191) [(.t 6), (.t 7)], none, []⟩, ⟨(some 9), .not (.t 8), none, []⟩]) (.cond (.t 9) 
  (.seq (.region [⟨(some 10), .mv (.t 0), none, []⟩, ⟨(some 4), .mv (.t 10), none, []⟩, ⟨(some 5), .mv (.c (.b false)), none, []⟩]) .ret) .skip)) 
  (.seq (.region [⟨(some 11), .mv (.t 0), none, []⟩, ⟨(some 12), .mv (.t 1), none, []⟩, ⟨(some 13), .len 0 (.t 12), none, []⟩, ⟨(some 14), .sliceStr (.t 11) (some (.t 13)) none, none, []⟩, ⟨(some 4), .mv (.t 14), none, []⟩, ⟨(some 5), .mv (.c (.b true)), none, []⟩]) .ret))))⟩
def c137 : AFunc := ⟨2, 23, [(4, none), (5, none), (6, none)], (some 
  (.seq (.region [⟨(some 4), .mv (.c (.s [])), none, []⟩, ⟨(some 5), .mv (.c (.s [])), none, []⟩, ⟨(some 6), .mv (.c (.b false)), none, []⟩]) 
  (.seq 
  (.seq (.region [⟨(some 8), .mv (.t 0), none, []⟩, ⟨(some 9), .mv (.t 1), none, []⟩, ⟨(some 10), .call (.fn 192) [(.t 8), (.t 9)], none, []⟩, ⟨(some 7), .mv (.t 10), none, []⟩]) 
  (.seq (.region [⟨(some 11), .mv (.t 7), none, []⟩, ⟨(some 12), .bin .geq (.t 11) (.c (.i .i64 0)), none, []⟩]) (.cond (.t 12) 
  (.seq (.draw [⟨(some 13), .mv (.t 0), none, []⟩, ⟨(some 14), .mv (.t 7), none, []⟩, ⟨(some 15), .sliceStr (.t 13) none (some (.t 14)), none, []⟩, ⟨(some 16), .mv (.t 0), none, []⟩, ⟨(some 17), .mv (.t 7), none, []⟩, ⟨(some 18), .mv (.t 1), none, []⟩, ⟨(some 19), .len 0 (.t 18), none, []⟩, ⟨(some 20), .bin .add (.t 17) (.t 19), none, []⟩, ⟨(some 21), .sliceStr (.t 16) (some (.t 20)) none, none, []⟩, ⟨(some 4), .mv (.t 15), none, []⟩, ⟨(some 5), .mv (.t 21), none, []⟩, ⟨(some 6), .mv (.c (.b true)), none, []⟩]) .ret) .skip))) 
  (.seq (.region [⟨(some 22), .mv (.t 0), none, []⟩, ⟨(some 4), .mv (.t 22), none, []⟩, ⟨(some 5), .mv (.c (.s [])), none, []⟩, ⟨(some 6), .mv (.c (.b false)), none, []⟩]) .ret))))⟩
def c138 : AFunc := ⟨3, 8, [(6, none)], (some 
  (.seq (.region [⟨(some 3), .box (.t 0), none, []⟩, ⟨(some 4), .box (.t 1), none, []⟩, ⟨(some 5), .box (.t 2), none, []⟩, ⟨(some 6), .mv (.c .nf), none, []⟩]) 
  (.seq (.region [⟨(some 7), .mkFunc (.func 193) [] [(.t 4), (.t 3), (.t 5)], none, []⟩, ⟨(some 6), .mv (.t 7), none, []⟩]) .ret)))⟩
def c143 : AFunc := ⟨1, 9, [(2, none)], (some 
  (.seq (.region [⟨(some 2), .mv (.c (.b false)), none, []⟩]) 
  (.seq (.region [⟨(some 3), .mv (.t 0), none, []⟩, ⟨(some 4), .call (.fn 149) [(.t 3)], none, []⟩, ⟨(some 5), .mv (.t 4), none, []⟩, ⟨(some 6), .mv (.t 0), (some (5, false)), []⟩, ⟨(some 7), .call (.fn 150) [(.t 6)], (some (5, false)), []⟩, ⟨(some 8), .pick (.t 5) (.c (.b true)) (.t 7), none, []⟩, ⟨(some 2), .mv (.t 8), none, []⟩]) .ret)))⟩
def c144 : AFunc := ⟨2, 27, [], (some 
  (.seq (.region [⟨(some 6), .mv (.t 0), none, []⟩, ⟨(some 7), .len 1 (.t 6), none, []⟩, ⟨(some 8), .mv (.c (.i .i64 0)), none, []⟩]) (.block 0 (.loop 
  (.seq (.region [⟨(some 9), .bin .lss (.t 8) (.t 7), none, []⟩]) 
  (.seq (.cond (.t 9) .skip (.exit 0)) 
  (.seq (.block 1 
  (.seq (.region [⟨(some 10), .idxSl (some 3) (.t 6) (.t 8), none, []⟩, ⟨(some 11), .load (some 3) (.t 10), none, []⟩, ⟨(some 5), .alloc (.ag [(.b false), (.s []), .nilsl]), none, []⟩, ⟨none, .store (some 3) (.t 5) (.t 11), none, []⟩]) 
  (.seq 
  (.seq (.region [⟨(some 12), .fieldAddr 0 none (.t 5), none, []⟩, ⟨(some 13), .load none (.t 12), none, []⟩, ⟨(some 14), .mv (.t 13), none, []⟩, ⟨(some 15), .fieldAddr 1 none (.t 5), (some (14, true)), []⟩, ⟨(some 16), .load none (.t 15), (some (14, true)), []⟩, ⟨(some 17), .call (.fn 143) [(.t 16)], (some (14, true)), []⟩, ⟨(some 18), .pick (.t 14) (.t 17) (.c (.b false)), none, []⟩]) (.cond (.t 18) (.region [⟨(some 19), .mv (.t 1), none, []⟩, ⟨(some 20), .fieldAddr 1 none (.t 5), none, []⟩, ⟨(some 21), .load none (.t 20), none, []⟩, ⟨none, .mapUpd (.inl 1) (.t 19) (.t 21) (.c (.b true)), none, []⟩]) .skip)) (.region [⟨(some 22), .fieldAddr 2 none (.t 5), none, []⟩, ⟨(some 23), .load none (.t 22), none, []⟩, ⟨(some 24), .mv (.t 1), none, []⟩, ⟨(some 25), .call (.fn 144) [(.t 23), (.t 24)], none, []⟩])))) (.region [⟨(some 26), .bin .add (.t 8) (.c (.i .i64 1)), none, []⟩, ⟨(some 8), .mv (.t 26), none, []⟩]))))))))⟩
def c145 : AFunc := ⟨1, 5, [(2, none)], (some 
  (.seq (.region [⟨(some 2), .mv (.c .nilsl), none, []⟩]) 
  (.seq (.region [⟨(some 3), .mv (.t 0), none, []⟩, ⟨(some 4), .call (.fn 198) [(.c .nilsl), (.t 3)], none, []⟩, ⟨(some 2), .mv (.t 4), none, []⟩]) .ret)))⟩
def c146 : AFunc := ⟨1, 11, [], (some 
  (.seq (.region [⟨(some 3), .mv (.t 0), none, []⟩, ⟨(some 4), .len 1 (.t 3), none, []⟩, ⟨(some 2), .mv (.t 4), none, []⟩]) (.region [⟨(some 5), .mv (.t 0), none, []⟩, ⟨(some 6), .mv (.t 2), none, []⟩, ⟨(some 7), .mv (.t 2), none, []⟩, ⟨(some 8), .conv .u64 (.t 7), none, []⟩, ⟨(some 9), .call (.fn 200) [(.t 8)], none, []⟩, ⟨(some 10), .call (.fn 199) [(.t 5), (.c (.i .i64 0)), (.t 6), (.t 9)], none, []⟩])))⟩
def c147 : AFunc := ⟨2, 14, [], (some 
  (.seq (.region [⟨(some 4), .load none (.t 1), none, []⟩, ⟨(some 5), .rangeMap (.t 4), none, []⟩]) (.block 0 (.loop 
  (.seq (.region [⟨(some 6), .nextMap (.t 5), none, []⟩, ⟨(some 7), .extract (.t 6) 0, none, []⟩]) 
  (.seq (.cond (.t 7) .skip (.exit 0)) (.block 1 
  (.seq (.region [⟨(some 8), .entry (.t 5), none, []⟩, ⟨(some 9), .extract (.t 8) 0, none, []⟩, ⟨(some 3), .mv (.t 9), none, []⟩]) 
  (.seq (.region [⟨(some 10), .mv (.t 0), none, []⟩, ⟨(some 11), .mv (.t 3), none, []⟩, ⟨(some 12), .call (.val (.t 10)) [(.t 11)], none, []⟩, ⟨(some 13), .not (.t 12), none, []⟩]) (.cond (.t 13) .ret .skip))))))))))⟩
def c148 : AFunc := ⟨1, 6, [(2, none)], (some 
  (.seq (.region [⟨(some 2), .mv (.c (.b false)), none, []⟩]) 
  (.seq (.region [⟨(some 3), .call (.fn 120) [(.c (.f (.func 201) [] [])), (.c (.f (.func 156) [] []))], none, []⟩, ⟨(some 4), .mv (.t 0), none, []⟩, ⟨(some 5), .call (.val (.t 3)) [(.t 4)], none, []⟩, ⟨(some 2), .mv (.t 5), none, []⟩]) .ret)))⟩
def c149 : AFunc := ⟨1, 15, [(2, none)], (some 
  (.seq (.region [⟨(some 2), .mv (.c (.b false)), none, []⟩]) 
  (.seq (.region [⟨(some 3), .mv (.t 0), none, []⟩, ⟨(some 4), .len 0 (.t 3), none, []⟩, ⟨(some 5), .bin .leq (.t 4) (.c (.i .i64 16)), none, []⟩, ⟨(some 6), .mv (.t 5), none, []⟩, ⟨(some 7), .mv (.t 0), (some (6, true)), []⟩, ⟨(some 8), .call (.fn 202) [(.t 7), (.c (.s [63]))], (some (6, true)), []⟩, ⟨(some 9), .pick (.t 6) (.t 8) (.c (.b false)), none, []⟩, ⟨(some 10), .mv (.t 9), none, []⟩, ⟨(some 11), .mv (.t 0), (some (10, true)), []⟩, ⟨(some 12), .sliceStr (.t 11) (some (.c (.i .i64 1))) none, (some (10, true)), []⟩, ⟨(some 13), .call (.fn 91) [(.t 12)], (some (10, true)), []⟩, ⟨(some 14), .pick (.t 10) (.t 13) (.c (.b false)), none, []⟩, ⟨(some 2), .mv (.t 14), none, []⟩]) .ret)))⟩
def c150 : AFunc := ⟨1, 15, [(2, none)], (some 
  (.seq (.region [⟨(some 2), .mv (.c (.b false)), none, []⟩]) 
  (.seq (.region [⟨(some 3), .mv (.t 0), none, []⟩, ⟨(some 4), .len 0 (.t 3), none, []⟩, ⟨(some 5), .bin .leq (.t 4) (.c (.i .i64 16)), none, []⟩, ⟨(some 6), .mv (.t 5), none, []⟩, ⟨(some 7), .mv (.t 0), (some (6, true)), []⟩, ⟨(some 8), .call (.fn 202) [(.t 7), (.c (.s [63]))], (some (6, true)), []⟩, ⟨(some 9), .pick (.t 6) (.t 8) (.c (.b false)), none, []⟩, ⟨(some 10), .mv (.t 9), none, []⟩, ⟨(some 11), .mv (.t 0), (some (10, true)), []⟩, ⟨(some 12), .sliceStr (.t 11) (some (.c (.i .i64 1))) none, (some (10, true)), []⟩, ⟨(some 13), .call (.fn 203) [(.t 12)], (some (10, true)), []⟩, ⟨(some 14), .pick (.t 10) (.t 13) (.c (.b false)), none, []⟩, ⟨(some 2), .mv (.t 14), none, []⟩]) .ret)))⟩
def c151 : AFunc := ⟨3, 50, [(6, none)], (some 
  (.seq (.region [⟨(some 4), .box (.t 1), none, []⟩, ⟨(some 6), .mv (.c (.b false)), none, []⟩]) 
  (.seq 
  (.seq (.region [⟨(some 7), .mv (.t 0), none, []⟩, ⟨(some 8), .mv (.t 2), none, []⟩, ⟨(some 9), .call (.fn 114) [(.t 7), (.t 8)], none, []⟩, ⟨(some 10), .not (.t 9), none, []⟩]) (.cond (.t 10) 
  (.seq (.region [⟨(some 6), .mv (.c (.b false)), none, []⟩]) .ret) .skip)) 
  (.seq 
  (.seq (.region [⟨(some 11), .fieldAddr 0 none (.t 4), none, []⟩, ⟨(some 12), .load none (.t 11), none, []⟩]) (.cond (.t 12) 
  (.seq (.region [⟨(some 13), .fieldAddr 2 none (.t 4), none, []⟩, ⟨(some 14), .load none (.t 13), none, []⟩, ⟨(some 15), .len 1 (.t 14), none, []⟩, ⟨(some 16), .bin .eql (.t 15) (.c (.i .i64 0)), none, []⟩, ⟨(some 17), .mv (.t 16), none, []⟩, ⟨(some 18), .fieldAddr 1 none (.t 4), (some (17, true)), []⟩, ⟨(some 19), .load none (.t 18), (some (17, true)), []⟩, ⟨(some 20), .call (.fn 148) [(.t 19)], (some (17, true)), []⟩, ⟨(some 21), .mv (.t 20), (some (17, true)), []⟩, ⟨(some 22), .mv (.t 0), (some (21, false)), []⟩, ⟨(some 23), .nilCheck (.t 22), (some (21, false)), []⟩, ⟨(some 24), .fieldAddr 0 none (.t 23), (some (21, false)), []⟩, ⟨(some 25), .load none (.t 24), (some (21, false)), []⟩, ⟨(some 26), .mv (.t 25), (some (21, false)), []⟩, ⟨(some 27), .fieldAddr 1 none (.t 4), (some (26, true)), []⟩, ⟨(some 28), .load none (.t 27), (some (26, true)), []⟩, ⟨(some 29), .call (.fn 150) [(.t 28)], (some (26, true)), []⟩, ⟨(some 30), .pick (.t 26) (.t 29) (.c (.b false)), (some (21, false)), []⟩, ⟨(some 31), .pick (.t 21) (.c (.b true)) (.t 30), (some (17, true)), []⟩, ⟨(some 32), .pick (.t 17) (.t 31) (.c (.b false)), none, []⟩, ⟨(some 6), .mv (.t 32), none, []⟩]) .ret) .skip)) 
  (.seq (.region [⟨(some 33), .fieldAddr 2 none (.t 4), none, []⟩, ⟨(some 34), .load none (.t 33), none, []⟩, ⟨(some 35), .len 1 (.t 34), none, []⟩, ⟨(some 36), .bin .leq (.t 35) (.c (.i .i64 4)), none, []⟩, ⟨(some 37), .mv (.t 36), none, []⟩, ⟨(some 38), .fieldAddr 1 none (.t 4), (some (37, true)), []⟩, ⟨(some 39), .load none (.t 38), (some (37, true)), []⟩, ⟨(some 40), .call (.fn 203) [(.t 39)], (some (37, true)), []⟩, ⟨(some 41), .pick (.t 37) (.t 40) (.c (.b false)), none, []⟩, ⟨(some 42), .mv (.t 41), none, []⟩, ⟨(some 43), .mv (.t 0), (some (42, true)), []⟩, ⟨(some 44), .fieldAddr 2 none (.t 4), (some (42, true)), []⟩, ⟨(some 45), .load none (.t 44), (some (42, true)), []⟩, ⟨(some 46), .mv (.t 2), (some (42, true)), []⟩, ⟨(some 47), .bin .add (.t 46) (.c (.i .i64 1)), (some (42, true)), []⟩, ⟨(some 48), .call (.fn 117) [(.t 43), (.t 45), (.t 47)], (some (42, true)), []⟩, ⟨(some 49), .pick (.t 42) (.t 48) (.c (.b false)), none, []⟩, ⟨(some 6), .mv (.t 49), none, []⟩]) .ret)))))⟩
def c152 : AFunc := ⟨2, 19, [(4, none)], (some 
  (.seq (.region [⟨(some 4), .mv (.c (.i .i64 0)), none, []⟩]) 
  (.seq 
  (.seq (.region [⟨(some 6), .mv (.t 0), none, []⟩, ⟨(some 7), .len 1 (.t 6), none, []⟩, ⟨(some 8), .mv (.c (.i .i64 0)), none, []⟩]) (.block 0 (.loop 
  (.seq (.region [⟨(some 9), .bin .lss (.t 8) (.t 7), none, []⟩]) 
  (.seq (.cond (.t 9) .skip (.exit 0)) 
  (.seq (.block 1 
  (.seq (.region [⟨(some 10), .mv (.t 8), none, []⟩, ⟨(some 5), .mv (.t 10), none, []⟩]) 
  (.seq (.region [⟨(some 11), .mv (.t 1), none, []⟩, ⟨(some 12), .mv (.t 0), none, []⟩, ⟨(some 13), .mv (.t 5), none, []⟩, ⟨(some 14), .idxSl (some 4) (.t 12) (.t 13), none, []⟩, ⟨(some 15), .load (some 4) (.t 14), none, []⟩, ⟨(some 16), .call (.val (.t 11)) [(.t 15)], none, []⟩]) (.cond (.t 16) 
  (.seq (.region [⟨(some 17), .mv (.t 5), none, []⟩, ⟨(some 4), .mv (.t 17), none, []⟩]) .ret) .skip)))) (.region [⟨(some 18), .bin .add (.t 8) (.c (.i .i64 1)), none, []⟩, ⟨(some 8), .mv (.t 18), none, []⟩]))))))) 
  (.seq (.region [⟨(some 4), .mv (.c (.i .i64 (-1))), none, []⟩]) .ret))))⟩
def c153 : AFunc := ⟨3, 37, [(4, none)], (some 
  (.seq (.region [⟨(some 4), .mv (.c (.b false)), none, []⟩]) 
  (.seq 
  (.seq (.draw [⟨(some 6), .mv (.t 0), none, []⟩, ⟨(some 7), .len 0 (.t 6), none, []⟩, ⟨(some 8), .bin .lss (.t 7) (.c (.i .i64 1)), none, []⟩, ⟨(some 9), .mv (.t 8), none, []⟩, ⟨(some 10), .mv (.t 0), (some (9, false)), []⟩, ⟨(some 11), .len 0 (.t 10), (some (9, false)), []⟩, ⟨(some 12), .bin .gtr (.t 11) (.c (.i .i64 16)), (some (9, false)), []⟩, ⟨(some 13), .pick (.t 9) (.c (.b true)) (.t 12), none, []⟩, ⟨(some 14), .mv (.t 13), none, []⟩, ⟨(some 15), .mv (.t 0), (some (14, false)), []⟩, ⟨(some 16), .call (.fn 154) [(.t 15)], (some (14, false)), []⟩, ⟨(some 17), .pick (.t 14) (.c (.b true)) (.t 16), none, []⟩, ⟨(some 18), .mv (.t 17), none, []⟩, ⟨(some 19), .load none (.t 1), (some (18, false)), []⟩, ⟨(some 20), .mv (.t 0), (some (18, false)), []⟩, ⟨(some 21), .indexStr (.t 20) (.c (.i .i64 0)), (some (18, false)), []⟩, ⟨(some 22), .call (.val (.t 19)) [(.t 21)], (some (18, false)), []⟩, ⟨(some 23), .not (.t 22), (some (18, false)), []⟩, ⟨(some 24), .pick (.t 18) (.c (.b true)) (.t 23), none, []⟩]) (.cond (.t 24) 
  (.seq (.region [⟨(some 4), .mv (.c (.b false)), none, []⟩]) .ret) .skip)) 
  (.seq 
  (.seq (.region [⟨(some 5), .mv (.c (.i .i64 1)), none, []⟩]) (.block 0 (.loop 
  (.seq 
  (.seq (.region [⟨(some 25), .mv (.t 5), none, []⟩, ⟨(some 26), .mv (.t 0), none, []⟩, ⟨(some 27), .len 0 (.t 26), none, []⟩, ⟨(some 28), .bin .lss (.t 25) (.t 27), none, []⟩]) (.cond (.t 28) .skip (.exit 0))) 
  (.seq (.block 1 
  (.seq (.draw [⟨(some 31), .load none (.t 2), none, []⟩, ⟨(some 32), .mv (.t 0), none, []⟩, ⟨(some 33), .mv (.t 5), none, []⟩, ⟨(some 34), .indexStr (.t 32) (.t 33), none, []⟩, ⟨(some 35), .call (.val (.t 31)) [(.t 34)], none, []⟩, ⟨(some 36), .not (.t 35), none, []⟩]) (.cond (.t 36) 
  (.seq (.region [⟨(some 4), .mv (.c (.b false)), none, []⟩]) .ret) .skip))) (.region [⟨(some 29), .mv (.t 5), none, []⟩, ⟨(some 30), .bin .add (.t 29) (.c (.i .i64 1)), none, []⟩, ⟨(some 5), .mv (.t 30), none, []⟩])))))) 
  (.seq (.region [⟨(some 4), .mv (.c (.b true)), none, []⟩]) .ret)))))⟩
def c154 : AFunc := ⟨1, 11, [(2, none)], (some 
  (.seq (.region [⟨(some 2), .mv (.c (.b false)), none, []⟩]) 
  (.seq 
  (.seq (.region [⟨(some 3), .mv (.t 0), none, []⟩]) (.block 0 
  (.seq 
  (.seq (.region [⟨(some 5), .bin .eql (.t 3) (.c (.s [97, 108, 108])), none, []⟩, ⟨(some 4), .mv (.t 5), none, []⟩]) (.cond (.t 4) .skip 
  (.seq (.region [⟨(some 6), .bin .eql (.t 3) (.c (.s [115, 111, 109, 101])), none, []⟩, ⟨(some 4), .mv (.t 6), none, []⟩]) (.cond (.t 4) .skip 
  (.seq (.region [⟨(some 7), .bin .eql (.t 3) (.c (.s [102, 97, 108, 115, 101])), none, []⟩, ⟨(some 4), .mv (.t 7), none, []⟩]) (.cond (.t 4) .skip 
  (.seq (.region [⟨(some 8), .bin .eql (.t 3) (.c (.s [110, 101, 120, 116])), none, []⟩, ⟨(some 4), .mv (.t 8), none, []⟩]) (.cond (.t 4) .skip 
  (.seq (.region [⟨(some 9), .bin .eql (.t 3) (.c (.s [97, 108, 119, 97, 121, 115])), none, []⟩, ⟨(some 4), .mv (.t 9), none, []⟩]) (.cond (.t 4) .skip (.region [⟨(some 10), .bin .eql (.t 3) (.c (.s [117, 110, 116, 105, 108])), none, []⟩, ⟨(some 4), .mv (.t 10), none, []⟩]))))))))))) (.cond (.t 4) 
  (.seq (.region [⟨(some 2), .mv (.c (.b true)), none, []⟩]) .ret) .skip)))) 
  (.seq (.region [⟨(some 2), .mv (.c (.b false)), none, []⟩]) .ret))))⟩
def c162 : AFunc := ⟨1, 20, [(2, none)], (some 
  (.seq (.region [⟨(some 2), .mv (.c (.b false)), none, []⟩]) 
  (.seq 
  (.seq (.region [⟨(some 3), .mv (.c (.i .i64 1)), none, []⟩]) (.block 0 (.loop 
  (.seq 
  (.seq (.region [⟨(some 4), .mv (.t 3), none, []⟩, ⟨(some 5), .mv (.t 0), none, []⟩, ⟨(some 6), .len 1 (.t 5), none, []⟩, ⟨(some 7), .bin .lss (.t 4) (.t 6), none, []⟩]) (.cond (.t 7) .skip (.exit 0))) 
  (.seq (.block 1 
  (.seq (.draw [⟨(some 10), .mv (.t 0), none, []⟩, ⟨(some 11), .mv (.t 3), none, []⟩, ⟨(some 12), .bin .sub (.t 11) (.c (.i .i64 1)), none, []⟩, ⟨(some 13), .idxSl none (.t 10) (.t 12), none, []⟩, ⟨(some 14), .load none (.t 13), none, []⟩, ⟨(some 15), .mv (.t 0), none, []⟩, ⟨(some 16), .mv (.t 3), none, []⟩, ⟨(some 17), .idxSl none (.t 15) (.t 16), none, []⟩, ⟨(some 18), .load none (.t 17), none, []⟩, ⟨(some 19), .bin .geq (.t 14) (.t 18), none, []⟩]) (.cond (.t 19) 
  (.seq (.region [⟨(some 2), .mv (.c (.b false)), none, []⟩]) .ret) .skip))) (.region [⟨(some 8), .mv (.t 3), none, []⟩, ⟨(some 9), .bin .add (.t 8) (.c (.i .i64 1)), none, []⟩, ⟨(some 3), .mv (.t 9), none, []⟩])))))) 
  (.seq (.region [⟨(some 2), .mv (.c (.b true)), none, []⟩]) .ret))))⟩
def c163 : AFunc := ⟨3, 83, [(6, (some (some 4))), (7, none)], (some 
  (.seq (.region [⟨(some 3), .box (.t 0), none, []⟩, ⟨(some 4), .box (.t 1), none, []⟩, ⟨(some 6), .alloc (.ag [(.i .u8 0), (.s []), .nilsl, .nilsl]), none, []⟩, ⟨(some 7), .mv (.c (.b false)), none, []⟩]) 
  (.seq (.region [⟨(some 17), .fieldAddr 0 none (.t 4), none, []⟩, ⟨(some 18), .load none (.t 17), none, []⟩, ⟨(some 19), .fieldAddr 1 none (.t 4), none, []⟩, ⟨(some 20), .load none (.t 19), none, []⟩, ⟨(some 21), .build [(.i .u8 0), (.s []), .nilsl, .nilsl] [(0, 1, (.t 18)), (1, 1, (.t 20))], none, []⟩, ⟨(some 8), .alloc (.ag [(.i .u8 0), (.s []), .nilsl, .nilsl]), none, []⟩, ⟨none, .store (some 4) (.t 8) (.t 21), none, []⟩]) 
  (.seq 
  (.seq (.region [⟨(some 22), .fieldAddr 2 none (.t 4), none, []⟩, ⟨(some 23), .load none (.t 22), none, []⟩, ⟨(some 24), .len 1 (.t 23), none, []⟩, ⟨(some 25), .mv (.c (.i .i64 0)), none, []⟩]) (.block 0 (.loop 
  (.seq (.region [⟨(some 26), .bin .lss (.t 25) (.t 24), none, []⟩]) 
  (.seq (.cond (.t 26) .skip (.exit 0)) 
  (.seq (.block 1 
  (.seq (.region [⟨(some 27), .idxSl (some 3) (.t 23) (.t 25), none, []⟩, ⟨(some 28), .load (some 3) (.t 27), none, []⟩, ⟨(some 10), .alloc (.ag [(.b false), (.s []), .nilsl]), none, []⟩, ⟨none, .store (some 3) (.t 10) (.t 28), none, []⟩]) 
  (.seq (.region [⟨(some 30), .load (some 9) (.t 3), none, []⟩, ⟨(some 31), .load (some 3) (.t 10), none, []⟩, ⟨(some 32), .mv (.t 2), none, []⟩, ⟨(some 33), .call (.fn 166) [(.t 30), (.t 31), (.t 32)], none, []⟩, ⟨(some 29), .mv (.t 33), none, []⟩, ⟨(some 34), .extract (.t 29) 0, none, []⟩, ⟨(some 35), .extract (.t 29) 1, none, []⟩, ⟨(some 11), .alloc (.ag [(.b false), (.s []), .nilsl]), none, []⟩, ⟨none, .store (some 3) (.t 11) (.t 34), none, []⟩, ⟨(some 12), .mv (.t 35), none, []⟩]) 
  (.seq 
  (.seq (.region [⟨(some 36), .mv (.t 12), none, []⟩, ⟨(some 37), .not (.t 36), none, []⟩]) (.cond (.t 37) 
  (.seq (.region [⟨(some 38), .build [(.i .u8 0), (.s []), .nilsl, .nilsl] [], none, []⟩, ⟨none, .store (some 4) (.t 6) (.t 38), none, []⟩, ⟨(some 7), .mv (.c (.b false)), none, []⟩]) .ret) .skip)) (.region [⟨(some 39), .fieldAddr 2 none (.t 8), none, []⟩, ⟨(some 40), .load none (.t 39), none, []⟩, ⟨(some 41), .load (some 3) (.t 11), none, []⟩, ⟨(some 42), .buildSlice (some 3) 1 [(.b false), (.s []), .nilsl] [(0, (.t 41))], none, []⟩, ⟨(some 43), .append (some 3) 48 (.t 40) (.t 42), none, []⟩, ⟨(some 44), .fieldAddr 2 none (.t 8), none, []⟩, ⟨none, .store none (.t 44) (.t 43), none, []⟩]))))) (.region [⟨(some 45), .bin .add (.t 25) (.c (.i .i64 1)), none, []⟩, ⟨(some 25), .mv (.t 45), none, []⟩]))))))) 
  (.seq 
  (.seq (.region [⟨(some 46), .load (some 4) (.t 4), none, []⟩, ⟨(some 47), .call (.fn 165) [(.t 46)], none, []⟩]) (.cond (.t 47) (.draw [⟨(some 48), .mv (.t 2), none, []⟩, ⟨(some 49), .mv (.t 2), none, []⟩, ⟨(some 50), .len 1 (.t 49), none, [9]⟩, ⟨(some 51), .mv (.t 2), none, []⟩, ⟨(some 52), .len 1 (.t 51), none, [9]⟩, ⟨(some 53), .sliceSl none (.t 48) none (some (.t 50)) (some (.t 52)), none, []⟩, ⟨(some 54), .fieldAddr 1 none (.t 4), none, []⟩, ⟨(some 55), .load none (.t 54), none, [9]⟩, ⟨(some 56), .buildSlice none 1 [(.s [])] [(0, (.t 55))], none, []⟩, ⟨(some 57), .append none 16 (.t 53) (.t 56), none, []⟩, ⟨(some 2), .mv (.t 57), none, []⟩]) .skip)) 
  (.seq 
  (.seq (.region [⟨(some 58), .fieldAddr 3 none (.t 4), none, []⟩, ⟨(some 59), .load none (.t 58), none, []⟩, ⟨(some 60), .len 1 (.t 59), none, []⟩, ⟨(some 61), .mv (.c (.i .i64 0)), none, []⟩]) (.block 2 (.loop 
  (.seq (.region [⟨(some 62), .bin .lss (.t 61) (.t 60), none, []⟩]) 
  (.seq (.cond (.t 62) .skip (.exit 2)) 
  (.seq (.block 3 
  (.seq (.region [⟨(some 63), .idxSl (some 4) (.t 59) (.t 61), none, []⟩, ⟨(some 64), .load (some 4) (.t 63), none, []⟩, ⟨(some 14), .alloc (.ag [(.i .u8 0), (.s []), .nilsl, .nilsl]), none, []⟩, ⟨none, .store (some 4) (.t 14) (.t 64), none, []⟩]) 
  (.seq (.region [⟨(some 66), .load (some 9) (.t 3), none, []⟩, ⟨(some 67), .load (some 4) (.t 14), none, []⟩, ⟨(some 68), .mv (.t 2), none, []⟩, ⟨(some 69), .call (.fn 163) [(.t 66), (.t 67), (.t 68)], none, []⟩, ⟨(some 65), .mv (.t 69), none, []⟩, ⟨(some 70), .extract (.t 65) 0, none, []⟩, ⟨(some 71), .extract (.t 65) 1, none, []⟩, ⟨(some 15), .alloc (.ag [(.i .u8 0), (.s []), .nilsl, .nilsl]), none, []⟩, ⟨none, .store (some 4) (.t 15) (.t 70), none, []⟩, ⟨(some 16), .mv (.t 71), none, []⟩]) 
  (.seq 
  (.seq (.region [⟨(some 72), .mv (.t 16), none, []⟩, ⟨(some 73), .not (.t 72), none, []⟩]) (.cond (.t 73) 
  (.seq (.region [⟨(some 74), .build [(.i .u8 0), (.s []), .nilsl, .nilsl] [], none, []⟩, ⟨none, .store (some 4) (.t 6) (.t 74), none, []⟩, ⟨(some 7), .mv (.c (.b false)), none, []⟩]) .ret) .skip)) (.region [⟨(some 75), .fieldAddr 3 none (.t 8), none, []⟩, ⟨(some 76), .load none (.t 75), none, []⟩, ⟨(some 77), .load (some 4) (.t 15), none, []⟩, ⟨(some 78), .buildSlice (some 4) 1 [(.i .u8 0), (.s []), .nilsl, .nilsl] [(0, (.t 77))], none, []⟩, ⟨(some 79), .append (some 4) 72 (.t 76) (.t 78), none, []⟩, ⟨(some 80), .fieldAddr 3 none (.t 8), none, []⟩, ⟨none, .store none (.t 80) (.t 79), none, []⟩]))))) (.region [⟨(some 81), .bin .add (.t 61) (.c (.i .i64 1)), none, []⟩, ⟨(some 61), .mv (.t 81), none, []⟩]))))))) 
  (.seq (.region [⟨(some 82), .load (some 4) (.t 8), none, []⟩, ⟨none, .store (some 4) (.t 6) (.t 82), none, []⟩, ⟨(some 7), .mv (.c (.b true)), none, []⟩]) .ret)))))))⟩
def c165 : AFunc := ⟨1, 11, [(2, none)], (some 
  (.seq (.region [⟨(some 1), .box (.t 0), none, []⟩, ⟨(some 2), .mv (.c (.b false)), none, []⟩]) 
  (.seq (.region [⟨(some 3), .fieldAddr 0 none (.t 1), none, []⟩, ⟨(some 4), .load none (.t 3), none, []⟩, ⟨(some 5), .bin .eql (.t 4) (.c (.i .u8 8)), none, []⟩, ⟨(some 6), .mv (.t 5), none, []⟩, ⟨(some 7), .fieldAddr 0 none (.t 1), (some (6, false)), []⟩, ⟨(some 8), .load none (.t 7), (some (6, false)), []⟩, ⟨(some 9), .bin .eql (.t 8) (.c (.i .u8 9)), (some (6, false)), []⟩, ⟨(some 10), .pick (.t 6) (.c (.b true)) (.t 9), none, []⟩, ⟨(some 2), .mv (.t 10), none, []⟩]) .ret)))⟩
def c174 : AFunc := ⟨3, 9, [], (some (.region [⟨(some 4), .load (some 4) (.t 1), none, []⟩, ⟨(some 5), .load (some 4) (.t 2), none, []⟩, ⟨(some 6), .build [(.i .u8 0), (.s []), .nilsl, .nilsl, (.i .u8 0), (.s []), .nilsl, .nilsl, .nilsl] [(0, 4, (.t 4)), (4, 4, (.t 5)), (8, 1, (.c .nilsl))], none, []⟩, ⟨(some 7), .mv (.t 0), none, []⟩, ⟨(some 8), .call (.fn 175) [(.t 6), (.t 7)], none, []⟩]))⟩
def c175 : AFunc := ⟨2, 61, [(4, none)], (some 
  (.seq (.region [⟨(some 2), .box (.t 0), none, []⟩, ⟨(some 4), .mv (.c (.b false)), none, []⟩]) 
  (.seq 
  (.seq (.region [⟨(some 7), .mv (.t 1), none, []⟩, ⟨(some 8), .load (some 9) (.t 2), none, []⟩, ⟨(some 9), .call (.val (.t 7)) [(.t 8)], none, []⟩, ⟨(some 10), .not (.t 9), none, []⟩]) (.cond (.t 10) 
  (.seq (.region [⟨(some 4), .mv (.c (.b false)), none, []⟩]) .ret) .skip)) 
  (.seq (.region [⟨(some 11), .fieldAddr 8 none (.t 2), none, []⟩, ⟨(some 12), .load none (.t 11), none, []⟩, ⟨(some 5), .mv (.t 12), none, []⟩]) 
  (.seq 
  (.seq (.region [⟨(some 13), .fieldAddr 0 (some 4) (.t 2), none, []⟩, ⟨(some 14), .load (some 4) (.t 13), none, []⟩, ⟨(some 15), .call (.fn 165) [(.t 14)], none, []⟩]) (.cond (.t 15) (.draw [⟨(some 16), .mv (.t 5), none, []⟩, ⟨(some 17), .mv (.t 5), none, []⟩, ⟨(some 18), .len 1 (.t 17), none, [14]⟩, ⟨(some 19), .mv (.t 5), none, []⟩, ⟨(some 20), .len 1 (.t 19), none, [14]⟩, ⟨(some 21), .sliceSl (some 2) (.t 16) none (some (.t 18)) (some (.t 20)), none, []⟩, ⟨(some 22), .fieldAddr 0 (some 4) (.t 2), none, []⟩, ⟨(some 23), .fieldAddr 1 none (.t 22), none, []⟩, ⟨(some 24), .load none (.t 23), none, [14]⟩, ⟨(some 25), .fieldAddr 4 (some 4) (.t 2), none, []⟩, ⟨(some 26), .fieldAddr 1 none (.t 25), none, []⟩, ⟨(some 27), .load none (.t 26), none, [14]⟩, ⟨(some 28), .build [(.s []), (.s [])] [(0, 1, (.t 24)), (1, 1, (.t 27))], none, []⟩, ⟨(some 29), .buildSlice (some 2) 1 [(.s []), (.s [])] [(0, (.t 28))], none, []⟩, ⟨(some 30), .append (some 2) 32 (.t 21) (.t 29), none, []⟩, ⟨(some 5), .mv (.t 30), none, []⟩]) .skip)) 
  (.seq 
  (.seq (.region [⟨(some 31), .fieldAddr 0 (some 4) (.t 2), none, []⟩, ⟨(some 32), .fieldAddr 3 none (.t 31), none, []⟩, ⟨(some 33), .load none (.t 32), none, []⟩, ⟨(some 34), .len 1 (.t 33), none, []⟩, ⟨(some 35), .fieldAddr 4 (some 4) (.t 2), none, []⟩, ⟨(some 36), .fieldAddr 3 none (.t 35), none, []⟩, ⟨(some 37), .load none (.t 36), none, []⟩, ⟨(some 38), .len 1 (.t 37), none, []⟩, ⟨(some 39), .minmax false (.t 34) (.t 38), none, []⟩, ⟨(some 40), .mv (.c (.i .i64 0)), none, []⟩]) (.block 0 (.loop 
  (.seq (.region [⟨(some 41), .bin .lss (.t 40) (.t 39), none, []⟩]) 
  (.seq (.cond (.t 41) .skip (.exit 0)) 
  (.seq (.block 1 
  (.seq (.region [⟨(some 42), .mv (.t 40), none, []⟩, ⟨(some 6), .mv (.t 42), none, []⟩]) 
  (.seq (.draw [⟨(some 43), .fieldAddr 0 (some 4) (.t 2), none, []⟩, ⟨(some 44), .fieldAddr 3 none (.t 43), none, []⟩, ⟨(some 45), .load none (.t 44), none, []⟩, ⟨(some 46), .mv (.t 6), none, []⟩, ⟨(some 47), .idxSl (some 4) (.t 45) (.t 46), none, []⟩, ⟨(some 48), .load (some 4) (.t 47), none, []⟩, ⟨(some 49), .fieldAddr 4 (some 4) (.t 2), none, []⟩, ⟨(some 50), .fieldAddr 3 none (.t 49), none, []⟩, ⟨(some 51), .load none (.t 50), none, []⟩, ⟨(some 52), .mv (.t 6), none, []⟩, ⟨(some 53), .idxSl (some 4) (.t 51) (.t 52), none, []⟩, ⟨(some 54), .load (some 4) (.t 53), none, []⟩, ⟨(some 55), .mv (.t 5), none, []⟩, ⟨(some 56), .build [(.i .u8 0), (.s []), .nilsl, .nilsl, (.i .u8 0), (.s []), .nilsl, .nilsl, .nilsl] [(0, 4, (.t 48)), (4, 4, (.t 54)), (8, 1, (.t 55))], none, []⟩, ⟨(some 57), .mv (.t 1), none, []⟩, ⟨(some 58), .call (.fn 175) [(.t 56), (.t 57)], none, []⟩, ⟨(some 59), .not (.t 58), none, []⟩]) (.cond (.t 59) 
  (.seq (.region [⟨(some 4), .mv (.c (.b false)), none, []⟩]) .ret) .skip)))) (.region [⟨(some 60), .bin .add (.t 40) (.c (.i .i64 1)), none, []⟩, ⟨(some 40), .mv (.t 60), none, []⟩]))))))) 
  (.seq (.region [⟨(some 4), .mv (.c (.b true)), none, []⟩]) .ret)))))))⟩
def c176 : AFunc := ⟨1, 4, [(2, none)], (some 
  (.seq (.region [⟨(some 1), .box (.t 0), none, []⟩, ⟨(some 2), .mv (.c .nf), none, []⟩]) 
  (.seq (.region [⟨(some 3), .mkFunc (.func 219) [] [(.t 1)], none, []⟩, ⟨(some 2), .mv (.t 3), none, []⟩]) .ret)))⟩
def c177 : AFunc := ⟨1, 4, [(2, none)], (some 
  (.seq (.region [⟨(some 1), .box (.t 0), none, []⟩, ⟨(some 2), .mv (.c .nf), none, []⟩]) 
  (.seq (.region [⟨(some 3), .mkFunc (.func 220) [] [(.t 1)], none, []⟩, ⟨(some 2), .mv (.t 3), none, []⟩]) .ret)))⟩
def c179 : AFunc := ⟨1, 6, [(2, none)], (some 
  (.seq (.region [⟨(some 2), .mv (.c .nilsl), none, []⟩]) 
  (.seq (.region [⟨(some 3), .mv (.t 0), none, []⟩, ⟨(some 4), .call (.fn 222) [(.t 3)], none, []⟩, ⟨(some 5), .call (.fn 221) [(.t 4), (.c (.f (.func 223) [] []))], none, []⟩, ⟨(some 2), .mv (.t 5), none, []⟩]) .ret)))⟩
def c180 : AFunc := ⟨2, 25, [(4, none)], (some 
  (.seq (.region [⟨(some 4), .mv (.c (.b false)), none, []⟩]) 
  (.seq 
  (.seq (.region [⟨(some 7), .mv (.t 0), none, []⟩, ⟨(some 8), .len 1 (.t 7), none, []⟩, ⟨(some 9), .mv (.c (.i .i64 0)), none, []⟩]) (.block 0 (.loop 
  (.seq (.region [⟨(some 10), .bin .lss (.t 9) (.t 8), none, []⟩]) 
  (.seq (.cond (.t 10) .skip (.exit 0)) 
  (.seq (.block 1 
  (.seq (.region [⟨(some 11), .idxSl (some 3) (.t 7) (.t 9), none, []⟩, ⟨(some 12), .load (some 3) (.t 11), none, []⟩, ⟨(some 6), .alloc (.ag [(.b false), (.s []), .nilsl]), none, []⟩, ⟨none, .store (some 3) (.t 6) (.t 12), none, []⟩]) 
  (.seq (.region [⟨(some 13), .mv (.t 1), none, []⟩, ⟨(some 14), .load (some 3) (.t 6), none, []⟩, ⟨(some 15), .call (.val (.t 13)) [(.t 14)], none, []⟩, ⟨(some 16), .not (.t 15), none, []⟩, ⟨(some 17), .mv (.t 16), none, []⟩, ⟨(some 18), .fieldAddr 2 none (.t 6), (some (17, false)), []⟩, ⟨(some 19), .load none (.t 18), (some (17, false)), []⟩, ⟨(some 20), .mv (.t 1), (some (17, false)), []⟩, ⟨(some 21), .call (.fn 180) [(.t 19), (.t 20)], (some (17, false)), []⟩, ⟨(some 22), .not (.t 21), (some (17, false)), []⟩, ⟨(some 23), .pick (.t 17) (.c (.b true)) (.t 22), none, []⟩]) (.cond (.t 23) 
  (.seq (.region [⟨(some 4), .mv (.c (.b false)), none, []⟩]) .ret) .skip)))) (.region [⟨(some 24), .bin .add (.t 9) (.c (.i .i64 1)), none, []⟩, ⟨(some 9), .mv (.t 24), none, []⟩]))))))) 
  (.seq (.region [⟨(some 4), .mv (.c (.b true)), none, []⟩]) .ret))))⟩
def c181 : AFunc := ⟨2, 14, [(3, none)], (some 
  (.seq (.region [⟨(some 2), .box (.t 0), none, []⟩, ⟨(some 3), .mv (.c (.b false)), none, []⟩]) 
  (.seq 
  (.seq (.region [⟨(some 4), .fieldAddr 0 none (.t 2), none, []⟩, ⟨(some 5), .load none (.t 4), none, []⟩, ⟨(some 6), .not (.t 5), none, []⟩]) (.cond (.t 6) (.region [⟨(some 7), .load none (.t 1), none, []⟩, ⟨(some 8), .fieldAddr 1 none (.t 2), none, []⟩, ⟨(some 9), .load none (.t 8), none, []⟩, ⟨(some 10), .fieldAddr 2 none (.t 2), none, []⟩, ⟨(some 11), .load none (.t 10), none, []⟩, ⟨(some 12), .len 1 (.t 11), none, []⟩, ⟨(some 13), .build [(.s []), (.i .i64 0)] [(0, 1, (.t 9)), (1, 1, (.t 12))], none, []⟩, ⟨none, .mapUpd (.inr [1, 0]) (.t 7) (.t 13) (.c (.b true)), none, []⟩]) .skip)) 
  (.seq (.region [⟨(some 3), .mv (.c (.b true)), none, []⟩]) .ret))))⟩
def c182 : AFunc := ⟨1, 27, [(2, (some none)), (3, (some none)), (4, (some none))], (some 
  (.seq (.region [⟨(some 2), .alloc .nilsl, none, []⟩, ⟨(some 3), .alloc (.i .i64 0), none, []⟩, ⟨(some 4), .alloc (.i .i64 0), none, []⟩]) 
  (.seq 
  (.seq (.region [⟨(some 9), .mv (.t 0), none, []⟩, ⟨(some 10), .len 0 (.t 9), none, []⟩, ⟨(some 11), .bin .gtr (.t 10) (.c (.i .i64 16384)), none, []⟩]) (.cond (.t 11) 
  (.seq (.region [⟨none, .store none (.t 2) (.c .nilsl), none, []⟩, ⟨none, .store none (.t 3) (.c (.i .i64 0)), none, []⟩, ⟨none, .store none (.t 4) (.c (.i .i64 3)), none, []⟩]) .ret) .skip)) 
  (.seq (.region [⟨(some 5), .alloc .nilsl, none, []⟩]) 
  (.seq (.region [⟨(some 12), .mv (.t 0), none, []⟩, ⟨(some 13), .build [(.i .i64 0), (.s [])] [(1, 1, (.t 12))], none, []⟩, ⟨(some 6), .alloc (.ag [(.i .i64 0), (.s [])]), none, []⟩, ⟨none, .store (some 2) (.t 6) (.t 13), none, []⟩]) 
  (.seq 
  (.seq (.region [⟨(some 14), .call (.fn 226) [(.t 6)], none, []⟩]) (.block 0 (.rangeFunc (.t 14) [15, 16] 
  (.seq (.region [⟨(some 7), .alloc (.ag [(.i .u8 0), (.s []), (.i .i64 0)]), none, []⟩, ⟨none, .store (some 3) (.t 7) (.t 15), none, []⟩]) (.region [⟨(some 8), .mv (.t 16), none, []⟩])) (.block 1 
  (.seq 
  (.seq (.region [⟨(some 17), .mv (.t 8), none, []⟩, ⟨(some 18), .bin .neq (.t 17) (.c (.i .i64 0)), none, []⟩]) (.cond (.t 18) 
  (.seq (.draw [⟨(some 19), .fieldAddr 2 none (.t 7), none, []⟩, ⟨(some 20), .load none (.t 19), none, [4]⟩, ⟨(some 21), .mv (.t 8), none, []⟩, ⟨none, .store none (.t 2) (.c .nilsl), none, []⟩, ⟨none, .store none (.t 3) (.t 20), none, []⟩, ⟨none, .store none (.t 4) (.t 21), none, []⟩]) .ret) .skip)) (.region [⟨(some 22), .load none (.t 5), none, []⟩, ⟨(some 23), .load (some 3) (.t 7), none, []⟩, ⟨(some 24), .buildSlice (some 3) 1 [(.i .u8 0), (.s []), (.i .i64 0)] [(0, (.t 23))], none, []⟩, ⟨(some 25), .append (some 3) 32 (.t 22) (.t 24), none, []⟩, ⟨none, .store none (.t 5) (.t 25), none, []⟩])))))) 
  (.seq (.region [⟨(some 26), .load none (.t 5), none, []⟩, ⟨none, .store none (.t 2) (.t 26), none, []⟩, ⟨none, .store none (.t 3) (.c (.i .i64 0)), none, []⟩, ⟨none, .store none (.t 4) (.c (.i .i64 0)), none, []⟩]) .ret)))))))⟩
def c183 : AFunc := ⟨3, 17, [], (some 
  (.seq (.region [⟨(some 7), .recover, none, []⟩, ⟨(some 8), .assertC (.t 7) 240 (.ag [(.i .i64 0), (.i .i64 0)]) true, none, []⟩, ⟨(some 6), .mv (.t 8), none, []⟩, ⟨(some 9), .extract (.t 6) 0, none, []⟩, ⟨(some 10), .extract (.t 6) 1, none, []⟩, ⟨(some 3), .alloc (.ag [(.i .i64 0), (.i .i64 0)]), none, []⟩, ⟨none, .store (some 2) (.t 3) (.t 9), none, []⟩, ⟨(some 4), .mv (.t 10), none, []⟩]) 
  (.seq (.region [⟨(some 11), .mv (.t 4), none, []⟩]) (.cond (.t 11) 
  (.seq (.region [⟨(some 5), .alloc (.ag [(.i .u8 0), (.s []), .nilsl, .nilsl]), none, []⟩]) (.draw [⟨(some 12), .load (some 4) (.t 5), none, []⟩, ⟨(some 13), .fieldAddr 0 none (.t 3), none, []⟩, ⟨(some 14), .load none (.t 13), none, [6]⟩, ⟨(some 15), .fieldAddr 1 none (.t 3), none, []⟩, ⟨(some 16), .load none (.t 15), none, [6, 7]⟩, ⟨none, .store (some 4) (.t 0) (.t 12), none, []⟩, ⟨none, .store none (.t 1) (.t 14), none, []⟩, ⟨none, .store none (.t 2) (.t 16), none, []⟩])) .skip))))⟩
def c184 : AFunc := ⟨1, 13, [(2, (some (some 3)))], (some 
  (.seq (.region [⟨(some 2), .alloc (.ag [(.i .u8 0), (.s []), (.i .i64 0)]), none, []⟩]) 
  (.seq (.draw [⟨(some 3), .mv (.t 0), none, []⟩, ⟨(some 4), .nilCheck (.t 3), none, []⟩, ⟨(some 5), .fieldAddr 0 none (.t 4), none, []⟩, ⟨(some 6), .load none (.t 5), none, []⟩, ⟨(some 7), .mv (.t 0), none, []⟩, ⟨(some 8), .nilCheck (.t 7), none, []⟩, ⟨(some 9), .fieldAddr 1 none (.t 8), none, []⟩, ⟨(some 10), .load none (.t 9), none, []⟩, ⟨(some 11), .idxSl (some 3) (.t 6) (.t 10), none, []⟩, ⟨(some 12), .load (some 3) (.t 11), none, []⟩, ⟨none, .store (some 3) (.t 2) (.t 12), none, []⟩]) .ret)))⟩
def c186 : AFunc := ⟨2, 65, [(4, (some (some 4)))], (some 
  (.seq (.region [⟨(some 4), .alloc (.ag [(.i .u8 0), (.s []), .nilsl, .nilsl]), none, []⟩]) 
  (.seq 
  (.seq (.region [⟨(some 9), .mv (.t 1), none, []⟩, ⟨(some 10), .bin .eql (.t 9) (.c (.i .i64 5)), none, []⟩]) (.cond (.t 10) 
  (.seq (.region [⟨(some 11), .mv (.t 0), none, []⟩, ⟨(some 12), .call (.fn 227) [(.t 11)], none, []⟩, ⟨none, .store (some 4) (.t 4) (.t 12), none, []⟩]) .ret) .skip)) 
  (.seq (.region [⟨(some 13), .mv (.t 1), none, []⟩, ⟨(some 14), .idxArr 5 (some 3) (.g 3) (.t 13), none, []⟩, ⟨(some 15), .load (some 3) (.t 14), none, []⟩, ⟨(some 5), .alloc (.ag [(.s []), (.i .u8 0), (.b false)]), none, []⟩, ⟨none, .store (some 3) (.t 5) (.t 15), none, []⟩]) 
  (.seq (.region [⟨(some 16), .mv (.t 0), none, []⟩, ⟨(some 17), .mv (.t 1), none, []⟩, ⟨(some 18), .bin .add (.t 17) (.c (.i .i64 1)), none, []⟩, ⟨(some 19), .call (.fn 186) [(.t 16), (.t 18)], none, []⟩, ⟨(some 6), .alloc (.ag [(.i .u8 0), (.s []), .nilsl, .nilsl]), none, []⟩, ⟨none, .store (some 4) (.t 6) (.t 19), none, []⟩]) 
  (.seq 
  (.seq (.region [⟨(some 20), .fieldAddr 2 none (.t 5), none, []⟩, ⟨(some 21), .load none (.t 20), none, []⟩]) (.cond (.t 21) 
  (.seq 
  (.seq (.region [⟨(some 22), .mv (.t 0), none, []⟩, ⟨(some 23), .fieldAddr 0 none (.t 5), none, []⟩, ⟨(some 24), .load none (.t 23), none, []⟩, ⟨(some 25), .call (.fn 228) [(.t 22), (.t 24)], none, []⟩]) (.cond (.t 25) 
  (.seq (.region [⟨(some 26), .mv (.t 0), none, []⟩, ⟨(some 27), .nilCheck (.t 26), none, []⟩, ⟨(some 28), .fieldAddr 2 none (.t 27), none, []⟩, ⟨(some 29), .load none (.t 28), none, []⟩, ⟨(some 30), .bin .add (.t 29) (.c (.i .i64 1)), none, []⟩, ⟨(some 31), .nilCheck (.t 26), none, []⟩, ⟨(some 32), .fieldAddr 2 none (.t 31), none, []⟩, ⟨none, .store none (.t 32) (.t 30), none, []⟩]) 
  (.seq (.region [⟨(some 33), .mv (.t 0), none, []⟩, ⟨(some 34), .mv (.t 1), none, []⟩, ⟨(some 35), .call (.fn 186) [(.t 33), (.t 34)], none, []⟩, ⟨(some 7), .alloc (.ag [(.i .u8 0), (.s []), .nilsl, .nilsl]), none, []⟩, ⟨none, .store (some 4) (.t 7) (.t 35), none, []⟩]) 
  (.seq (.region [⟨(some 36), .mv (.t 0), none, []⟩, ⟨(some 37), .nilCheck (.t 36), none, []⟩, ⟨(some 38), .fieldAddr 2 none (.t 37), none, []⟩, ⟨(some 39), .load none (.t 38), none, []⟩, ⟨(some 40), .bin .sub (.t 39) (.c (.i .i64 1)), none, []⟩, ⟨(some 41), .nilCheck (.t 36), none, []⟩, ⟨(some 42), .fieldAddr 2 none (.t 41), none, []⟩, ⟨none, .store none (.t 42) (.t 40), none, []⟩]) (.region [⟨(some 43), .fieldAddr 1 none (.t 5), none, []⟩, ⟨(some 44), .load none (.t 43), none, []⟩, ⟨(some 45), .load (some 4) (.t 6), none, []⟩, ⟨(some 46), .load (some 4) (.t 7), none, []⟩, ⟨(some 47), .buildSlice (some 4) 2 [(.i .u8 0), (.s []), .nilsl, .nilsl] [(0, (.t 45)), (1, (.t 46))], none, []⟩, ⟨(some 48), .build [(.i .u8 0), (.s []), .nilsl, .nilsl] [(0, 1, (.t 44)), (3, 1, (.t 47))], none, []⟩, ⟨none, .store (some 4) (.t 6) (.t 48), none, []⟩])))) .skip)) 
  (.seq (.region [⟨(some 49), .load (some 4) (.t 6), none, []⟩, ⟨none, .store (some 4) (.t 4) (.t 49), none, []⟩]) .ret)) .skip)) 
  (.seq (.block 0 (.loop 
  (.seq 
  (.seq (.region [⟨(some 50), .mv (.t 0), none, []⟩, ⟨(some 51), .fieldAddr 0 none (.t 5), none, []⟩, ⟨(some 52), .load none (.t 51), none, []⟩, ⟨(some 53), .call (.fn 228) [(.t 50), (.t 52)], none, []⟩]) (.cond (.t 53) .skip (.exit 0))) (.block 1 
  (.seq (.region [⟨(some 54), .mv (.t 0), none, []⟩, ⟨(some 55), .mv (.t 1), none, []⟩, ⟨(some 56), .bin .add (.t 55) (.c (.i .i64 1)), none, []⟩, ⟨(some 57), .call (.fn 186) [(.t 54), (.t 56)], none, []⟩, ⟨(some 8), .alloc (.ag [(.i .u8 0), (.s []), .nilsl, .nilsl]), none, []⟩, ⟨none, .store (some 4) (.t 8) (.t 57), none, []⟩]) (.region [⟨(some 58), .fieldAddr 1 none (.t 5), none, []⟩, ⟨(some 59), .load none (.t 58), none, []⟩, ⟨(some 60), .load (some 4) (.t 6), none, []⟩, ⟨(some 61), .load (some 4) (.t 8), none, []⟩, ⟨(some 62), .buildSlice (some 4) 2 [(.i .u8 0), (.s []), .nilsl, .nilsl] [(0, (.t 60)), (1, (.t 61))], none, []⟩, ⟨(some 63), .build [(.i .u8 0), (.s []), .nilsl, .nilsl] [(0, 1, (.t 59)), (3, 1, (.t 62))], none, []⟩, ⟨none, .store (some 4) (.t 6) (.t 63), none, []⟩])))))) 
  (.seq (.region [⟨(some 64), .load (some 4) (.t 6), none, []⟩, ⟨none, .store (some 4) (.t 4) (.t 64), none, []⟩]) .ret))))))))⟩
def c191 : AFunc := ⟨2, 18, [(4, none)], (some 
  (.seq (.region [⟨(some 4), .mv (.c (.b false)), none, []⟩]) 
  (.seq (.region [⟨(some 5), .mv (.t 0), none, []⟩, ⟨(some 6), .len 0 (.t 5), none, []⟩, ⟨(some 7), .mv (.t 1), none, []⟩, ⟨(some 8), .len 0 (.t 7), none, []⟩, ⟨(some 9), .bin .geq (.t 6) (.t 8), none, []⟩, ⟨(some 10), .mv (.t 9), none, []⟩, ⟨(some 11), .mv (.t 0), (some (10, true)), []⟩, ⟨(some 12), .mv (.t 1), (some (10, true)), []⟩, ⟨(some 13), .len 0 (.t 12), (some (10, true)), []⟩, ⟨(some 14), .sliceStr (.t 11) none (some (.t 13)), (some (10, true)), []⟩, ⟨(some 15), .mv (.t 1), (some (10, true)), []⟩, ⟨(some 16), .bin .eql (.t 14) (.t 15), (some (10, true)), []⟩, ⟨(some 17), .pick (.t 10) (.t 16) (.c (.b false)), none, []⟩, ⟨(some 4), .mv (.t 17), none, []⟩]) .ret)))⟩
def c192 : AFunc := ⟨2, 143, [(4, none)], (some 
  (.seq (.region [⟨(some 4), .mv (.c (.i .i64 0)), none, []⟩]) 
  (.seq (.region [⟨(some 14), .mv (.t 1), none, []⟩, ⟨(some 15), .len 0 (.t 14), none, []⟩, ⟨(some 5), .mv (.t 15), none, []⟩]) 
  (.seq (.block 0 
  (.seq (.region [⟨(some 17), .mv (.t 5), none, []⟩, ⟨(some 18), .bin .eql (.t 17) (.c (.i .i64 0)), none, []⟩, ⟨(some 19), .mv (.t 18), none, []⟩, ⟨(some 20), .mv (.t 1), (some (19, false)), []⟩, ⟨(some 21), .mv (.t 0), (some (19, false)), []⟩, ⟨(some 22), .bin .eql (.t 20) (.t 21), (some (19, false)), []⟩, ⟨(some 23), .pick (.t 19) (.c (.b true)) (.t 22), none, []⟩, ⟨(some 16), .mv (.t 23), none, []⟩]) (.cond (.t 16) 
  (.seq (.region [⟨(some 4), .mv (.c (.i .i64 0)), none, []⟩]) .ret) 
  (.seq (.region [⟨(some 25), .mv (.t 5), none, []⟩, ⟨(some 26), .bin .eql (.t 25) (.c (.i .i64 1)), none, []⟩, ⟨(some 24), .mv (.t 26), none, []⟩]) (.cond (.t 24) 
  (.seq (.region [⟨(some 27), .mv (.t 0), none, []⟩, ⟨(some 28), .mv (.t 1), none, []⟩, ⟨(some 29), .indexStr (.t 28) (.c (.i .i64 0)), none, []⟩, ⟨(some 30), .call (.fn 234) [(.t 27), (.t 29)], none, []⟩, ⟨(some 4), .mv (.t 30), none, []⟩]) .ret) 
  (.seq (.region [⟨(some 32), .mv (.t 5), none, []⟩, ⟨(some 33), .mv (.t 0), none, []⟩, ⟨(some 34), .len 0 (.t 33), none, []⟩, ⟨(some 35), .bin .geq (.t 32) (.t 34), none, []⟩, ⟨(some 31), .mv (.t 35), none, []⟩]) (.cond (.t 31) 
  (.seq (.region [⟨(some 4), .mv (.c (.i .i64 (-1))), none, []⟩]) .ret) 
  (.seq (.region [⟨(some 37), .mv (.t 5), none, []⟩, ⟨(some 38), .load none (.g 4), none, []⟩, ⟨(some 39), .bin .leq (.t 37) (.t 38), none, []⟩, ⟨(some 40), .mv (.t 39), none, []⟩, ⟨(some 41), .mv (.t 0), (some (40, true)), []⟩, ⟨(some 42), .len 0 (.t 41), (some (40, true)), []⟩, ⟨(some 43), .bin .leq (.t 42) (.c (.i .i64 64)), (some (40, true)), []⟩, ⟨(some 44), .pick (.t 40) (.t 43) (.c (.b false)), none, []⟩, ⟨(some 36), .mv (.t 44), none, []⟩]) (.cond (.t 36) 
  (.seq (.region [⟨(some 45), .mv (.t 0), none, []⟩, ⟨(some 46), .mv (.t 1), none, []⟩, ⟨(some 47), .call (.fn 235) [(.t 45), (.t 46)], none, []⟩, ⟨(some 4), .mv (.t 47), none, []⟩]) .ret) .skip))))))))) 
  (.seq (.region [⟨(some 48), .mv (.t 1), none, []⟩, ⟨(some 49), .indexStr (.t 48) (.c (.i .i64 0)), none, []⟩, ⟨(some 6), .mv (.t 49), none, []⟩]) 
  (.seq (.region [⟨(some 50), .mv (.t 1), none, []⟩, ⟨(some 51), .indexStr (.t 50) (.c (.i .i64 1)), none, []⟩, ⟨(some 7), .mv (.t 51), none, []⟩]) 
  (.seq (.region [⟨(some 8), .mv (.c (.i .i64 0)), none, []⟩]) 
  (.seq (.region [⟨(some 52), .mv (.t 0), none, []⟩, ⟨(some 53), .len 0 (.t 52), none, []⟩, ⟨(some 54), .mv (.t 5), none, []⟩, ⟨(some 55), .bin .sub (.t 53) (.t 54), none, []⟩, ⟨(some 56), .bin .add (.t 55) (.c (.i .i64 1)), none, []⟩, ⟨(some 9), .mv (.t 56), none, []⟩]) 
  (.seq (.region [⟨(some 10), .mv (.c (.i .i64 0)), none, []⟩]) 
  (.seq (.block 1 (.loop 
  (.seq 
  (.seq (.region [⟨(some 57), .mv (.t 8), none, []⟩, ⟨(some 58), .mv (.t 9), none, []⟩, ⟨(some 59), .bin .lss (.t 57) (.t 58), none, []⟩]) (.cond (.t 59) .skip (.exit 1))) (.block 2 
  (.seq 
  (.seq (.region [⟨(some 60), .mv (.t 0), none, []⟩, ⟨(some 61), .mv (.t 8), none, []⟩, ⟨(some 62), .indexStr (.t 60) (.t 61), none, []⟩, ⟨(some 63), .mv (.t 6), none, []⟩, ⟨(some 64), .bin .neq (.t 62) (.t 63), none, []⟩]) (.cond (.t 64) 
  (.seq (.region [⟨(some 65), .mv (.t 0), none, []⟩, ⟨(some 66), .mv (.t 8), none, []⟩, ⟨(some 67), .bin .add (.t 66) (.c (.i .i64 1)), none, []⟩, ⟨(some 68), .mv (.t 9), none, []⟩, ⟨(some 69), .sliceStr (.t 65) (some (.t 67)) (some (.t 68)), none, []⟩, ⟨(some 70), .mv (.t 6), none, []⟩, ⟨(some 71), .call (.fn 234) [(.t 69), (.t 70)], none, []⟩, ⟨(some 11), .mv (.t 71), none, []⟩]) 
  (.seq 
  (.seq (.region [⟨(some 72), .mv (.t 11), none, []⟩, ⟨(some 73), .bin .lss (.t 72) (.c (.i .i64 0)), none, []⟩]) (.cond (.t 73) 
  (.seq (.region [⟨(some 4), .mv (.c (.i .i64 (-1))), none, []⟩]) .ret) .skip)) (.region [⟨(some 74), .mv (.t 8), none, []⟩, ⟨(some 75), .mv (.t 11), none, []⟩, ⟨(some 76), .bin .add (.t 75) (.c (.i .i64 1)), none, []⟩, ⟨(some 77), .bin .add (.t 74) (.t 76), none, []⟩, ⟨(some 8), .mv (.t 77), none, []⟩]))) .skip)) 
  (.seq 
  (.seq (.region [⟨(some 78), .mv (.t 0), none, []⟩, ⟨(some 79), .mv (.t 8), none, []⟩, ⟨(some 80), .bin .add (.t 79) (.c (.i .i64 1)), none, []⟩, ⟨(some 81), .indexStr (.t 78) (.t 80), none, []⟩, ⟨(some 82), .mv (.t 7), none, []⟩, ⟨(some 83), .bin .eql (.t 81) (.t 82), none, []⟩, ⟨(some 84), .mv (.t 83), none, []⟩, ⟨(some 85), .mv (.t 0), (some (84, true)), []⟩, ⟨(some 86), .mv (.t 8), (some (84, true)), []⟩, ⟨(some 87), .mv (.t 8), (some (84, true)), []⟩, ⟨(some 88), .mv (.t 5), (some (84, true)), []⟩, ⟨(some 89), .bin .add (.t 87) (.t 88), (some (84, true)), []⟩, ⟨(some 90), .sliceStr (.t 85) (some (.t 86)) (some (.t 89)), (some (84, true)), []⟩, ⟨(some 91), .mv (.t 1), (some (84, true)), []⟩, ⟨(some 92), .bin .eql (.t 90) (.t 91), (some (84, true)), []⟩, ⟨(some 93), .pick (.t 84) (.t 92) (.c (.b false)), none, []⟩]) (.cond (.t 93) 
  (.seq (.region [⟨(some 94), .mv (.t 8), none, []⟩, ⟨(some 4), .mv (.t 94), none, []⟩]) .ret) .skip)) 
  (.seq (.region [⟨(some 95), .mv (.t 8), none, []⟩, ⟨(some 96), .bin .add (.t 95) (.c (.i .i64 1)), none, []⟩, ⟨(some 8), .mv (.t 96), none, []⟩]) 
  (.seq (.region [⟨(some 97), .mv (.t 10), none, []⟩, ⟨(some 98), .bin .add (.t 97) (.c (.i .i64 1)), none, []⟩, ⟨(some 10), .mv (.t 98), none, []⟩]) 
  (.seq (.region [⟨(some 99), .mv (.t 5), none, []⟩, ⟨(some 100), .load none (.g 4), none, []⟩, ⟨(some 101), .bin .leq (.t 99) (.t 100), none, []⟩, ⟨(some 102), .mv (.t 101), none, []⟩, ⟨(some 103), .mv (.t 10), (some (102, true)), []⟩, ⟨(some 104), .mv (.t 8), (some (102, true)), []⟩, ⟨(some 105), .call (.fn 236) [(.t 104)], (some (102, true)), []⟩, ⟨(some 106), .bin .gtr (.t 103) (.t 105), (some (102, true)), []⟩, ⟨(some 107), .pick (.t 102) (.t 106) (.c (.b false)), none, []⟩]) (.cond (.t 107) 
  (.seq (.region [⟨(some 108), .mv (.t 0), none, []⟩, ⟨(some 109), .mv (.t 8), none, []⟩, ⟨(some 110), .sliceStr (.t 108) (some (.t 109)) none, none, []⟩, ⟨(some 111), .mv (.t 1), none, []⟩, ⟨(some 112), .call (.fn 235) [(.t 110), (.t 111)], none, []⟩, ⟨(some 12), .mv (.t 112), none, []⟩]) 
  (.seq 
  (.seq (.region [⟨(some 113), .mv (.t 12), none, []⟩, ⟨(some 114), .bin .geq (.t 113) (.c (.i .i64 0)), none, []⟩]) (.cond (.t 114) 
  (.seq (.region [⟨(some 115), .mv (.t 12), none, []⟩, ⟨(some 116), .mv (.t 8), none, []⟩, ⟨(some 117), .bin .add (.t 115) (.t 116), none, []⟩, ⟨(some 4), .mv (.t 117), none, []⟩]) .ret) .skip)) 
  (.seq (.region [⟨(some 4), .mv (.c (.i .i64 (-1))), none, []⟩]) .ret))) 
  (.seq (.region [⟨(some 118), .mv (.t 5), none, []⟩, ⟨(some 119), .load none (.g 4), none, []⟩, ⟨(some 120), .bin .gtr (.t 118) (.t 119), none, []⟩, ⟨(some 121), .mv (.t 120), none, []⟩, ⟨(some 122), .mv (.t 10), (some (121, true)), []⟩, ⟨(some 123), .mv (.t 8), (some (121, true)), []⟩, ⟨(some 124), .bin .shr (.t 123) (.c (.i .u64 4)), (some (121, true)), []⟩, ⟨(some 125), .bin .add (.c (.i .i64 4)) (.t 124), (some (121, true)), []⟩, ⟨(some 126), .bin .geq (.t 122) (.t 125), (some (121, true)), []⟩, ⟨(some 127), .pick (.t 121) (.t 126) (.c (.b false)), none, []⟩, ⟨(some 128), .mv (.t 127), none, []⟩, ⟨(some 129), .mv (.t 8), (some (128, true)), []⟩, ⟨(some 130), .mv (.t 9), (some (128, true)), []⟩, ⟨(some 131), .bin .lss (.t 129) (.t 130), (some (128, true)), []⟩, ⟨(some 132), .pick (.t 128) (.t 131) (.c (.b false)), none, []⟩]) (.cond (.t 132) 
  (.seq (.region [⟨(some 133), .mv (.t 0), none, []⟩, ⟨(some 134), .mv (.t 8), none, []⟩, ⟨(some 135), .sliceStr (.t 133) (some (.t 134)) none, none, []⟩, ⟨(some 136), .mv (.t 1), none, []⟩, ⟨(some 137), .call (.fn 237) [(.t 135), (.t 136)], none, []⟩, ⟨(some 13), .mv (.t 137), none, []⟩]) 
  (.seq 
  (.seq (.region [⟨(some 138), .mv (.t 13), none, []⟩, ⟨(some 139), .bin .lss (.t 138) (.c (.i .i64 0)), none, []⟩]) (.cond (.t 139) 
  (.seq (.region [⟨(some 4), .mv (.c (.i .i64 (-1))), none, []⟩]) .ret) .skip)) 
  (.seq (.region [⟨(some 140), .mv (.t 8), none, []⟩, ⟨(some 141), .mv (.t 13), none, []⟩, ⟨(some 142), .bin .add (.t 140) (.t 141), none, []⟩, ⟨(some 4), .mv (.t 142), none, []⟩]) .ret))) .skip)))))))))))) 
  (.seq (.region [⟨(some 4), .mv (.c (.i .i64 (-1))), none, []⟩]) .ret)))))))))))⟩
def c193 : AFunc := ⟨4, 52, [], (some 
  (.seq 
  (.seq (.region [⟨(some 9), .load none (.t 1), none, []⟩, ⟨(some 10), .len 0 (.t 9), none, []⟩, ⟨(some 11), .bin .eql (.t 10) (.c (.i .i64 0)), none, []⟩]) (.cond (.t 11) 
  (.seq (.block 0 (.loop 
  (.seq 
  (.seq (.region [⟨(some 12), .load none (.t 2), none, []⟩, ⟨(some 13), .len 0 (.t 12), none, []⟩, ⟨(some 14), .bin .gtr (.t 13) (.c (.i .i64 0)), none, []⟩]) (.cond (.t 14) .skip (.exit 0))) (.block 1 
  (.seq (.region [⟨(some 16), .load none (.t 2), none, []⟩, ⟨(some 17), .call (.fn 190) [(.t 16)], none, []⟩, ⟨(some 15), .mv (.t 17), none, []⟩, ⟨(some 18), .extract (.t 15) 0, none, []⟩, ⟨(some 19), .extract (.t 15) 1, none, []⟩, ⟨(some 5), .mv (.t 18), none, []⟩, ⟨(some 6), .mv (.t 19), none, []⟩]) 
  (.seq 
  (.seq (.region [⟨(some 20), .mv (.t 0), none, []⟩, ⟨(some 21), .load none (.t 2), none, []⟩, ⟨(some 22), .mv (.t 6), none, []⟩, ⟨(some 23), .sliceStr (.t 21) none (some (.t 22)), none, []⟩, ⟨(some 24), .call (.val (.t 20)) [(.t 23)], none, []⟩, ⟨(some 25), .not (.t 24), none, []⟩]) (.cond (.t 25) .ret .skip)) (.region [⟨(some 26), .load none (.t 2), none, []⟩, ⟨(some 27), .mv (.t 6), none, []⟩, ⟨(some 28), .sliceStr (.t 26) (some (.t 27)) none, none, []⟩, ⟨none, .store none (.t 2) (.t 28), none, []⟩]))))))) .ret) .skip)) 
  (.seq (.block 2 (.loop (.block 3 
  (.seq (.region [⟨(some 29), .load none (.t 2), none, []⟩, ⟨(some 30), .load none (.t 1), none, []⟩, ⟨(some 31), .call (.fn 194) [(.t 29), (.t 30)], none, []⟩, ⟨(some 7), .mv (.t 31), none, []⟩]) 
  (.seq 
  (.seq (.region [⟨(some 32), .mv (.t 7), none, []⟩, ⟨(some 33), .bin .lss (.t 32) (.c (.i .i64 0)), none, []⟩]) (.cond (.t 33) (.exit 2) .skip)) 
  (.seq (.region [⟨(some 34), .load none (.t 2), none, []⟩, ⟨(some 35), .mv (.t 7), none, []⟩, ⟨(some 36), .load none (.t 3), none, []⟩, ⟨(some 37), .bin .add (.t 35) (.t 36), none, []⟩, ⟨(some 38), .sliceStr (.t 34) none (some (.t 37)), none, []⟩, ⟨(some 8), .mv (.t 38), none, []⟩]) 
  (.seq 
  (.seq (.region [⟨(some 39), .mv (.t 0), none, []⟩, ⟨(some 40), .mv (.t 8), none, []⟩, ⟨(some 41), .call (.val (.t 39)) [(.t 40)], none, []⟩, ⟨(some 42), .not (.t 41), none, []⟩]) (.cond (.t 42) .ret .skip)) (.region [⟨(some 43), .load none (.t 2), none, []⟩, ⟨(some 44), .mv (.t 7), none, []⟩, ⟨(some 45), .load none (.t 1), none, []⟩, ⟨(some 46), .len 0 (.t 45), none, []⟩, ⟨(some 47), .bin .add (.t 44) (.t 46), none, []⟩, ⟨(some 48), .sliceStr (.t 43) (some (.t 47)) none, none, []⟩, ⟨none, .store none (.t 2) (.t 48), none, []⟩])))))))) (.region [⟨(some 49), .mv (.t 0), none, []⟩, ⟨(some 50), .load none (.t 2), none, []⟩, ⟨(some 51), .call (.val (.t 49)) [(.t 50)], none, []⟩]))))⟩
def c194 : AFunc := ⟨2, 8, [(4, none)], (some 
  (.seq (.region [⟨(some 4), .mv (.c (.i .i64 0)), none, []⟩]) 
  (.seq (.region [⟨(some 5), .mv (.t 0), none, []⟩, ⟨(some 6), .mv (.t 1), none, []⟩, ⟨(some 7), .call (.fn 192) [(.t 5), (.t 6)], none, []⟩, ⟨(some 4), .mv (.t 7), none, []⟩]) .ret)))⟩
def c198 : AFunc := ⟨2, 13, [(4, none)], (some 
  (.seq (.region [⟨(some 2), .box (.t 0), none, []⟩, ⟨(some 4), .mv (.c .nilsl), none, []⟩]) 
  (.seq 
  (.seq (.region [⟨(some 6), .mv (.t 1), none, []⟩]) (.block 0 (.rangeFunc (.t 6) [7] (.region [⟨(some 5), .mv (.t 7), none, []⟩]) (.block 1 (.region [⟨(some 8), .load none (.t 2), none, []⟩, ⟨(some 9), .mv (.t 5), none, []⟩, ⟨(some 10), .buildSlice none 1 [(.s [])] [(0, (.t 9))], none, []⟩, ⟨(some 11), .append none 16 (.t 8) (.t 10), none, []⟩, ⟨none, .store none (.t 2) (.t 11), none, []⟩]))))) 
  (.seq (.region [⟨(some 12), .load none (.t 2), none, []⟩, ⟨(some 4), .mv (.t 12), none, []⟩]) .ret))))⟩
def c199 : AFunc := ⟨4, 134, [], (some 
  (.seq (.region [⟨(some 8), .mv (.c (.b true)), none, []⟩]) 
  (.seq (.region [⟨(some 9), .mv (.c (.b true)), none, []⟩]) (.block 0 (.loop (.block 1 
  (.seq (.region [⟨(some 19), .mv (.t 2), none, []⟩, ⟨(some 20), .mv (.t 1), none, []⟩, ⟨(some 21), .bin .sub (.t 19) (.t 20), none, []⟩, ⟨(some 10), .mv (.t 21), none, []⟩]) 
  (.seq 
  (.seq (.region [⟨(some 22), .mv (.t 10), none, []⟩, ⟨(some 23), .bin .leq (.t 22) (.c (.i .i64 12)), none, []⟩]) (.cond (.t 23) 
  (.seq (.region [⟨(some 24), .mv (.t 0), none, []⟩, ⟨(some 25), .mv (.t 1), none, []⟩, ⟨(some 26), .mv (.t 2), none, []⟩, ⟨(some 27), .call (.fn 238) [(.t 24), (.t 25), (.t 26)], none, []⟩]) .ret) .skip)) 
  (.seq 
  (.seq (.region [⟨(some 28), .mv (.t 3), none, []⟩, ⟨(some 29), .bin .eql (.t 28) (.c (.i .i64 0)), none, []⟩]) (.cond (.t 29) 
  (.seq (.region [⟨(some 30), .mv (.t 0), none, []⟩, ⟨(some 31), .mv (.t 1), none, []⟩, ⟨(some 32), .mv (.t 2), none, []⟩, ⟨(some 33), .call (.fn 239) [(.t 30), (.t 31), (.t 32)], none, []⟩]) .ret) .skip)) 
  (.seq 
  (.seq (.region [⟨(some 34), .mv (.t 8), none, []⟩, ⟨(some 35), .not (.t 34), none, []⟩]) (.cond (.t 35) 
  (.seq (.region [⟨(some 36), .mv (.t 0), none, []⟩, ⟨(some 37), .mv (.t 1), none, []⟩, ⟨(some 38), .mv (.t 2), none, []⟩, ⟨(some 39), .call (.fn 240) [(.t 36), (.t 37), (.t 38)], none, []⟩]) (.region [⟨(some 40), .mv (.t 3), none, []⟩, ⟨(some 41), .bin .sub (.t 40) (.c (.i .i64 1)), none, []⟩, ⟨(some 3), .mv (.t 41), none, []⟩])) .skip)) 
  (.seq (.region [⟨(some 43), .mv (.t 0), none, []⟩, ⟨(some 44), .mv (.t 1), none, []⟩, ⟨(some 45), .mv (.t 2), none, []⟩, ⟨(some 46), .call (.fn 241) [(.t 43), (.t 44), (.t 45)], none, []⟩, ⟨(some 42), .mv (.t 46), none, []⟩, ⟨(some 47), .extract (.t 42) 0, none, []⟩, ⟨(some 48), .extract (.t 42) 1, none, []⟩, ⟨(some 11), .mv (.t 47), none, []⟩, ⟨(some 12), .mv (.t 48), none, []⟩]) 
  (.seq 
  (.seq (.region [⟨(some 49), .mv (.t 12), none, []⟩, ⟨(some 50), .bin .eql (.t 49) (.c (.i .i64 2)), none, []⟩]) (.cond (.t 50) 
  (.seq (.region [⟨(some 51), .mv (.t 0), none, []⟩, ⟨(some 52), .mv (.t 1), none, []⟩, ⟨(some 53), .mv (.t 2), none, []⟩, ⟨(some 54), .call (.fn 242) [(.t 51), (.t 52), (.t 53)], none, []⟩]) 
  (.seq (.region [⟨(some 55), .mv (.t 2), none, []⟩, ⟨(some 56), .bin .sub (.t 55) (.c (.i .i64 1)), none, []⟩, ⟨(some 57), .mv (.t 11), none, []⟩, ⟨(some 58), .mv (.t 1), none, []⟩, ⟨(some 59), .bin .sub (.t 57) (.t 58), none, []⟩, ⟨(some 60), .bin .sub (.t 56) (.t 59), none, []⟩, ⟨(some 11), .mv (.t 60), none, []⟩]) (.region [⟨(some 12), .mv (.c (.i .i64 1)), none, []⟩]))) .skip)) 
  (.seq 
  (.seq (.region [⟨(some 61), .mv (.t 8), none, []⟩, ⟨(some 62), .mv (.t 61), none, []⟩, ⟨(some 63), .mv (.t 9), (some (62, true)), []⟩, ⟨(some 64), .pick (.t 62) (.t 63) (.c (.b false)), none, []⟩, ⟨(some 65), .mv (.t 64), none, []⟩, ⟨(some 66), .mv (.t 12), (some (65, true)), []⟩, ⟨(some 67), .bin .eql (.t 66) (.c (.i .i64 1)), (some (65, true)), []⟩, ⟨(some 68), .pick (.t 65) (.t 67) (.c (.b false)), none, []⟩]) (.cond (.t 68) 
  (.seq (.region [⟨(some 69), .mv (.t 0), none, []⟩, ⟨(some 70), .mv (.t 1), none, []⟩, ⟨(some 71), .mv (.t 2), none, []⟩, ⟨(some 72), .call (.fn 243) [(.t 69), (.t 70), (.t 71)], none, []⟩]) (.cond (.t 72) .ret .skip)) .skip)) 
  (.seq 
  (.seq (.draw [⟨(some 73), .mv (.t 1), none, []⟩, ⟨(some 74), .bin .gtr (.t 73) (.c (.i .i64 0)), none, []⟩, ⟨(some 75), .mv (.t 74), none, []⟩, ⟨(some 76), .mv (.t 0), (some (75, true)), []⟩, ⟨(some 77), .mv (.t 1), (some (75, true)), []⟩, ⟨(some 78), .bin .sub (.t 77) (.c (.i .i64 1)), (some (75, true)), []⟩, ⟨(some 79), .idxSl none (.t 76) (.t 78), (some (75, true)), []⟩, ⟨(some 80), .load none (.t 79), (some (75, true)), []⟩, ⟨(some 81), .mv (.t 0), (some (75, true)), []⟩, ⟨(some 82), .mv (.t 11), (some (75, true)), []⟩, ⟨(some 83), .idxSl none (.t 81) (.t 82), (some (75, true)), []⟩, ⟨(some 84), .load none (.t 83), (some (75, true)), []⟩, ⟨(some 85), .call (.fn 244) [(.t 80), (.t 84)], (some (75, true)), []⟩, ⟨(some 86), .not (.t 85), (some (75, true)), []⟩, ⟨(some 87), .pick (.t 75) (.t 86) (.c (.b false)), none, []⟩]) (.cond (.t 87) 
  (.seq (.region [⟨(some 88), .mv (.t 0), none, []⟩, ⟨(some 89), .mv (.t 1), none, []⟩, ⟨(some 90), .mv (.t 2), none, []⟩, ⟨(some 91), .mv (.t 11), none, []⟩, ⟨(some 92), .call (.fn 245) [(.t 88), (.t 89), (.t 90), (.t 91)], none, []⟩, ⟨(some 13), .mv (.t 92), none, []⟩]) 
  (.seq (.region [⟨(some 93), .mv (.t 13), none, []⟩, ⟨(some 1), .mv (.t 93), none, []⟩]) (.exit 1))) .skip)) 
  (.seq (.region [⟨(some 95), .mv (.t 0), none, []⟩, ⟨(some 96), .mv (.t 1), none, []⟩, ⟨(some 97), .mv (.t 2), none, []⟩, ⟨(some 98), .mv (.t 11), none, []⟩, ⟨(some 99), .call (.fn 246) [(.t 95), (.t 96), (.t 97), (.t 98)], none, []⟩, ⟨(some 94), .mv (.t 99), none, []⟩, ⟨(some 100), .extract (.t 94) 0, none, []⟩, ⟨(some 101), .extract (.t 94) 1, none, []⟩, ⟨(some 14), .mv (.t 100), none, []⟩, ⟨(some 15), .mv (.t 101), none, []⟩]) 
  (.seq (.region [⟨(some 102), .mv (.t 15), none, []⟩, ⟨(some 9), .mv (.t 102), none, []⟩]) 
  (.seq (.region [⟨(some 103), .mv (.t 14), none, []⟩, ⟨(some 104), .mv (.t 1), none, []⟩, ⟨(some 105), .bin .sub (.t 103) (.t 104), none, []⟩, ⟨(some 106), .mv (.t 2), none, []⟩, ⟨(some 107), .mv (.t 14), none, []⟩, ⟨(some 108), .bin .sub (.t 106) (.t 107), none, []⟩, ⟨(some 16), .mv (.t 105), none, []⟩, ⟨(some 17), .mv (.t 108), none, []⟩]) 
  (.seq (.region [⟨(some 109), .mv (.t 10), none, []⟩, ⟨(some 110), .bin .quo (.t 109) (.c (.i .i64 8)), none, []⟩, ⟨(some 18), .mv (.t 110), none, []⟩]) 
  (.seq (.region [⟨(some 111), .mv (.t 16), none, []⟩, ⟨(some 112), .mv (.t 17), none, []⟩, ⟨(some 113), .bin .lss (.t 111) (.t 112), none, []⟩]) (.cond (.t 113) 
  (.seq (.region [⟨(some 114), .mv (.t 16), none, []⟩, ⟨(some 115), .mv (.t 18), none, []⟩, ⟨(some 116), .bin .geq (.t 114) (.t 115), none, []⟩, ⟨(some 8), .mv (.t 116), none, []⟩]) 
  (.seq (.region [⟨(some 117), .mv (.t 0), none, []⟩, ⟨(some 118), .mv (.t 1), none, []⟩, ⟨(some 119), .mv (.t 14), none, []⟩, ⟨(some 120), .mv (.t 3), none, []⟩, ⟨(some 121), .call (.fn 199) [(.t 117), (.t 118), (.t 119), (.t 120)], none, []⟩]) (.region [⟨(some 122), .mv (.t 14), none, []⟩, ⟨(some 123), .bin .add (.t 122) (.c (.i .i64 1)), none, []⟩, ⟨(some 1), .mv (.t 123), none, []⟩]))) 
  (.seq (.region [⟨(some 124), .mv (.t 17), none, []⟩, ⟨(some 125), .mv (.t 18), none, []⟩, ⟨(some 126), .bin .geq (.t 124) (.t 125), none, []⟩, ⟨(some 8), .mv (.t 126), none, []⟩]) 
  (.seq (.region [⟨(some 127), .mv (.t 0), none, []⟩, ⟨(some 128), .mv (.t 14), none, []⟩, ⟨(some 129), .bin .add (.t 128) (.c (.i .i64 1)), none, []⟩, ⟨(some 130), .mv (.t 2), none, []⟩, ⟨(some 131), .mv (.t 3), none, []⟩, ⟨(some 132), .call (.fn 199) [(.t 127), (.t 129), (.t 130), (.t 131)], none, []⟩]) (.region [⟨(some 133), .mv (.t 14), none, []⟩, ⟨(some 2), .mv (.t 133), none, []⟩])))))))))))))))))))))))⟩
def c200 : AFunc := ⟨1, 8, [(2, none)], (some 
  (.seq (.region [⟨(some 2), .mv (.c (.i .i64 0)), none, []⟩]) 
  (.seq (.cond (.c (.b false)) 
  (.seq (.region [⟨(some 3), .mv (.t 0), none, []⟩, ⟨(some 4), .conv .u32 (.t 3), none, []⟩, ⟨(some 5), .call (.fn 247) [(.t 4)], none, []⟩, ⟨(some 2), .mv (.t 5), none, []⟩]) .ret) .skip) 
  (.seq (.region [⟨(some 6), .mv (.t 0), none, []⟩, ⟨(some 7), .call (.fn 248) [(.t 6)], none, []⟩, ⟨(some 2), .mv (.t 7), none, []⟩]) .ret))))⟩
def c201 : AFunc := ⟨1, 9, [(2, none)], (some 
  (.seq (.region [⟨(some 2), .mv (.c (.b false)), none, []⟩]) 
  (.seq (.region [⟨(some 3), .mv (.t 0), none, []⟩, ⟨(some 4), .bin .geq (.t 3) (.c (.i .u8 117)), none, []⟩, ⟨(some 5), .mv (.t 4), none, []⟩, ⟨(some 6), .mv (.t 0), (some (5, true)), []⟩, ⟨(some 7), .bin .leq (.t 6) (.c (.i .u8 122)), (some (5, true)), []⟩, ⟨(some 8), .pick (.t 5) (.t 7) (.c (.b false)), none, []⟩, ⟨(some 2), .mv (.t 8), none, []⟩]) .ret)))⟩
def c202 : AFunc := ⟨2, 8, [(4, none)], (some 
  (.seq (.region [⟨(some 4), .mv (.c (.b false)), none, []⟩]) 
  (.seq (.region [⟨(some 5), .mv (.t 0), none, []⟩, ⟨(some 6), .mv (.t 1), none, []⟩, ⟨(some 7), .call (.fn 191) [(.t 5), (.t 6)], none, []⟩, ⟨(some 4), .mv (.t 7), none, []⟩]) .ret)))⟩
def c203 : AFunc := ⟨1, 6, [(2, none)], (some 
  (.seq (.region [⟨(some 2), .mv (.c (.b false)), none, []⟩]) 
  (.seq (.region [⟨(some 3), .call (.fn 120) [(.c (.f (.func 249) [] [])), (.c (.f (.func 122) [] []))], none, []⟩, ⟨(some 4), .mv (.t 0), none, []⟩, ⟨(some 5), .call (.val (.t 3)) [(.t 4)], none, []⟩, ⟨(some 2), .mv (.t 5), none, []⟩]) .ret)))⟩
def c219 : AFunc := ⟨2, 14, [], (some 
  (.seq (.region [⟨(some 4), .load none (.t 1), none, []⟩, ⟨(some 5), .rangeMap (.t 4), none, []⟩]) (.block 0 (.loop 
  (.seq (.region [⟨(some 6), .nextMap (.t 5), none, []⟩, ⟨(some 7), .extract (.t 6) 0, none, []⟩]) 
  (.seq (.cond (.t 7) .skip (.exit 0)) (.block 1 
  (.seq (.region [⟨(some 8), .entry (.t 5), none, []⟩, ⟨(some 9), .extract (.t 8) 0, none, []⟩, ⟨(some 3), .mv (.t 9), none, []⟩]) 
  (.seq (.region [⟨(some 10), .mv (.t 0), none, []⟩, ⟨(some 11), .mv (.t 3), none, []⟩, ⟨(some 12), .call (.val (.t 10)) [(.t 11)], none, []⟩, ⟨(some 13), .not (.t 12), none, []⟩]) (.cond (.t 13) .ret .skip))))))))))⟩
def c220 : AFunc := ⟨2, 14, [], (some 
  (.seq (.region [⟨(some 4), .load none (.t 1), none, []⟩, ⟨(some 5), .rangeMap (.t 4), none, []⟩]) (.block 0 (.loop 
  (.seq (.region [⟨(some 6), .nextMap (.t 5), none, []⟩, ⟨(some 7), .extract (.t 6) 0, none, []⟩]) 
  (.seq (.cond (.t 7) .skip (.exit 0)) (.block 1 
  (.seq (.region [⟨(some 8), .entry (.t 5), none, []⟩, ⟨(some 9), .extract (.t 8) 0, none, []⟩, ⟨(some 3), .mv (.t 9), none, []⟩]) 
  (.seq (.region [⟨(some 10), .mv (.t 0), none, []⟩, ⟨(some 11), .mv (.t 3), none, []⟩, ⟨(some 12), .call (.val (.t 10)) [(.t 11)], none, []⟩, ⟨(some 13), .not (.t 12), none, []⟩]) (.cond (.t 13) .ret .skip))))))))))⟩
def c221 : AFunc := ⟨2, 12, [(4, none)], (some 
  (.seq (.region [⟨(some 4), .mv (.c .nilsl), none, []⟩]) 
  (.seq (.region [⟨(some 6), .mv (.t 0), none, []⟩, ⟨(some 7), .call (.fn 263) [(.t 6)], none, []⟩, ⟨(some 5), .mv (.t 7), none, []⟩]) 
  (.seq (.region [⟨(some 8), .mv (.t 5), none, []⟩, ⟨(some 9), .mv (.t 1), none, []⟩, ⟨(some 10), .call (.fn 264) [(.t 8), (.t 9)], none, []⟩]) 
  (.seq (.region [⟨(some 11), .mv (.t 5), none, []⟩, ⟨(some 4), .mv (.t 11), none, []⟩]) .ret)))))⟩
def c222 : AFunc := ⟨1, 4, [(2, none)], (some 
  (.seq (.region [⟨(some 1), .box (.t 0), none, []⟩, ⟨(some 2), .mv (.c .nf), none, []⟩]) 
  (.seq (.region [⟨(some 3), .mkFunc (.func 265) [] [(.t 1)], none, []⟩, ⟨(some 2), .mv (.t 3), none, []⟩]) .ret)))⟩
def c223 : AFunc := ⟨2, 19, [(4, none)], (some 
  (.seq (.region [⟨(some 2), .box (.t 0), none, []⟩, ⟨(some 3), .box (.t 1), none, []⟩, ⟨(some 4), .mv (.c (.i .i64 0)), none, []⟩]) 
  (.seq 
  (.seq (.region [⟨(some 6), .fieldAddr 0 none (.t 2), none, []⟩, ⟨(some 7), .load none (.t 6), none, []⟩, ⟨(some 8), .fieldAddr 0 none (.t 3), none, []⟩, ⟨(some 9), .load none (.t 8), none, []⟩, ⟨(some 10), .call (.fn 224) [(.t 7), (.t 9)], none, []⟩, ⟨(some 5), .mv (.t 10), none, []⟩]) 
  (.seq (.region [⟨(some 11), .mv (.t 5), none, []⟩, ⟨(some 12), .bin .neq (.t 11) (.c (.i .i64 0)), none, []⟩]) (.cond (.t 12) 
  (.seq (.region [⟨(some 13), .mv (.t 5), none, []⟩, ⟨(some 4), .mv (.t 13), none, []⟩]) .ret) .skip))) 
  (.seq (.region [⟨(some 14), .fieldAddr 1 none (.t 2), none, []⟩, ⟨(some 15), .load none (.t 14), none, []⟩, ⟨(some 16), .fieldAddr 1 none (.t 3), none, []⟩, ⟨(some 17), .load none (.t 16), none, []⟩, ⟨(some 18), .call (.fn 225) [(.t 15), (.t 17)], none, []⟩, ⟨(some 4), .mv (.t 18), none, []⟩]) .ret))))⟩
def c224 : AFunc := ⟨2, 8, [(4, none)], (some 
  (.seq (.region [⟨(some 4), .mv (.c (.i .i64 0)), none, []⟩]) 
  (.seq (.region [⟨(some 5), .mv (.t 0), none, []⟩, ⟨(some 6), .mv (.t 1), none, []⟩, ⟨(some 7), .call (.fn 266) [(.t 5), (.t 6)], none, []⟩, ⟨(some 4), .mv (.t 7), none, []⟩]) .ret)))⟩
def c226 : AFunc := ⟨1, 4, [(2, none)], (some 
  (.seq (.region [⟨(some 1), .box (.t 0), none, []⟩, ⟨(some 2), .mv (.c .nf), none, []⟩]) 
  (.seq (.region [⟨(some 3), .mkFunc (.func 268) [] [(.t 1)], none, []⟩, ⟨(some 2), .mv (.t 3), none, []⟩]) .ret)))⟩
def c227 : AFunc := ⟨1, 57, [(2, (some (some 4)))], (some 
  (.seq (.region [⟨(some 2), .alloc (.ag [(.i .u8 0), (.s []), .nilsl, .nilsl]), none, []⟩]) 
  (.seq (.region [⟨(some 6), .mv (.t 0), none, []⟩, ⟨(some 7), .call (.fn 271) [(.t 6)], none, []⟩]) 
  (.seq (.region [⟨(some 9), .call (.fn 272) [], none, []⟩, ⟨(some 10), .mv (.t 0), none, []⟩, ⟨(some 11), .call (.fn 184) [(.t 10)], none, []⟩, ⟨(some 12), .field 1 none (.t 11), none, []⟩, ⟨(some 13), .lookup (.inl 1) (.t 9) (.t 12) (.i .u8 0) true, none, []⟩, ⟨(some 8), .mv (.t 13), none, []⟩, ⟨(some 14), .extract (.t 8) 0, none, []⟩, ⟨(some 15), .extract (.t 8) 1, none, []⟩, ⟨(some 3), .mv (.t 14), none, []⟩, ⟨(some 4), .mv (.t 15), none, []⟩]) 
  (.seq 
  (.seq (.region [⟨(some 16), .mv (.t 4), none, []⟩, ⟨(some 17), .not (.t 16), none, []⟩]) (.cond (.t 17) 
  (.seq (.region [⟨(some 18), .mv (.t 0), none, []⟩, ⟨(some 19), .call (.fn 273) [(.t 18)], none, []⟩, ⟨none, .store (some 4) (.t 2) (.t 19), none, []⟩]) .ret) .skip)) 
  (.seq (.region [⟨(some 20), .mv (.t 0), none, []⟩, ⟨(some 21), .nilCheck (.t 20), none, []⟩, ⟨(some 22), .fieldAddr 1 none (.t 21), none, []⟩, ⟨(some 23), .load none (.t 22), none, []⟩, ⟨(some 24), .bin .add (.t 23) (.c (.i .i64 1)), none, []⟩, ⟨(some 25), .nilCheck (.t 20), none, []⟩, ⟨(some 26), .fieldAddr 1 none (.t 25), none, []⟩, ⟨none, .store none (.t 26) (.t 24), none, []⟩]) 
  (.seq (.region [⟨(some 27), .mv (.t 3), none, []⟩, ⟨(some 28), .build [(.i .u8 0), (.s []), .nilsl, .nilsl] [(0, 1, (.t 27))], none, []⟩, ⟨(some 5), .alloc (.ag [(.i .u8 0), (.s []), .nilsl, .nilsl]), none, []⟩, ⟨none, .store (some 4) (.t 5) (.t 28), none, []⟩]) 
  (.seq 
  (.seq (.region [⟨(some 29), .mv (.t 3), none, []⟩, ⟨(some 30), .bin .eql (.t 29) (.c (.i .u8 8)), none, []⟩, ⟨(some 31), .mv (.t 30), none, []⟩, ⟨(some 32), .mv (.t 3), (some (31, false)), []⟩, ⟨(some 33), .bin .eql (.t 32) (.c (.i .u8 9)), (some (31, false)), []⟩, ⟨(some 34), .pick (.t 31) (.c (.b true)) (.t 33), none, []⟩]) (.cond (.t 34) (.region [⟨(some 35), .mv (.t 0), none, []⟩, ⟨(some 36), .call (.fn 274) [(.t 35), (.c (.i .u8 1)), (.c (.f (.func 148) [] []))], none, []⟩, ⟨(some 37), .fieldAddr 1 none (.t 5), none, []⟩, ⟨none, .store none (.t 37) (.t 36), none, []⟩]) .skip)) 
  (.seq (.region [⟨(some 38), .mv (.t 0), none, []⟩, ⟨(some 39), .nilCheck (.t 38), none, []⟩, ⟨(some 40), .fieldAddr 2 none (.t 39), none, []⟩, ⟨(some 41), .load none (.t 40), none, []⟩, ⟨(some 42), .bin .add (.t 41) (.c (.i .i64 1)), none, []⟩, ⟨(some 43), .nilCheck (.t 38), none, []⟩, ⟨(some 44), .fieldAddr 2 none (.t 43), none, []⟩, ⟨none, .store none (.t 44) (.t 42), none, []⟩]) 
  (.seq (.region [⟨(some 45), .mv (.t 0), none, []⟩, ⟨(some 46), .call (.fn 227) [(.t 45)], none, []⟩, ⟨(some 47), .buildSlice (some 4) 1 [(.i .u8 0), (.s []), .nilsl, .nilsl] [(0, (.t 46))], none, []⟩, ⟨(some 48), .fieldAddr 3 none (.t 5), none, []⟩, ⟨none, .store none (.t 48) (.t 47), none, []⟩]) 
  (.seq (.region [⟨(some 49), .mv (.t 0), none, []⟩, ⟨(some 50), .nilCheck (.t 49), none, []⟩, ⟨(some 51), .fieldAddr 2 none (.t 50), none, []⟩, ⟨(some 52), .load none (.t 51), none, []⟩, ⟨(some 53), .bin .sub (.t 52) (.c (.i .i64 1)), none, []⟩, ⟨(some 54), .nilCheck (.t 49), none, []⟩, ⟨(some 55), .fieldAddr 2 none (.t 54), none, []⟩, ⟨none, .store none (.t 55) (.t 53), none, []⟩]) 
  (.seq (.region [⟨(some 56), .load (some 4) (.t 5), none, []⟩, ⟨none, .store (some 4) (.t 2) (.t 56), none, []⟩]) .ret))))))))))))⟩
def c228 : AFunc := ⟨2, 17, [(4, none)], (some 
  (.seq (.region [⟨(some 4), .mv (.c (.b false)), none, []⟩]) 
  (.seq 
  (.seq (.region [⟨(some 5), .mv (.t 0), none, []⟩, ⟨(some 6), .call (.fn 184) [(.t 5)], none, []⟩, ⟨(some 7), .field 1 none (.t 6), none, []⟩, ⟨(some 8), .mv (.t 1), none, []⟩, ⟨(some 9), .bin .neq (.t 7) (.t 8), none, []⟩]) (.cond (.t 9) 
  (.seq (.region [⟨(some 4), .mv (.c (.b false)), none, []⟩]) .ret) .skip)) 
  (.seq (.region [⟨(some 10), .mv (.t 0), none, []⟩, ⟨(some 11), .nilCheck (.t 10), none, []⟩, ⟨(some 12), .fieldAddr 1 none (.t 11), none, []⟩, ⟨(some 13), .load none (.t 12), none, []⟩, ⟨(some 14), .bin .add (.t 13) (.c (.i .i64 1)), none, []⟩, ⟨(some 15), .nilCheck (.t 10), none, []⟩, ⟨(some 16), .fieldAddr 1 none (.t 15), none, []⟩, ⟨none, .store none (.t 16) (.t 14), none, []⟩]) 
  (.seq (.region [⟨(some 4), .mv (.c (.b true)), none, []⟩]) .ret)))))⟩
def c234 : AFunc := ⟨2, 8, [(4, none)], (some 
  (.seq (.region [⟨(some 4), .mv (.c (.i .i64 0)), none, []⟩]) 
  (.seq (.region [⟨(some 5), .mv (.t 0), none, []⟩, ⟨(some 6), .mv (.t 1), none, []⟩, ⟨(some 7), .call (.fn 276) [(.t 5), (.t 6)], none, []⟩, ⟨(some 4), .mv (.t 7), none, []⟩]) .ret)))⟩
def c238 : AFunc := ⟨3, 49, [], (some 
  (.seq (.region [⟨(some 8), .mv (.t 1), none, []⟩, ⟨(some 9), .bin .add (.t 8) (.c (.i .i64 1)), none, []⟩, ⟨(some 6), .mv (.t 9), none, []⟩]) (.block 0 (.loop 
  (.seq 
  (.seq (.region [⟨(some 10), .mv (.t 6), none, []⟩, ⟨(some 11), .mv (.t 2), none, []⟩, ⟨(some 12), .bin .lss (.t 10) (.t 11), none, []⟩]) (.cond (.t 12) .skip (.exit 0))) 
  (.seq (.block 1 
  (.seq (.region [⟨(some 15), .mv (.t 6), none, []⟩, ⟨(some 7), .mv (.t 15), none, []⟩]) (.block 2 (.loop 
  (.seq 
  (.seq (.draw [⟨(some 16), .mv (.t 7), none, []⟩, ⟨(some 17), .mv (.t 1), none, []⟩, ⟨(some 18), .bin .gtr (.t 16) (.t 17), none, []⟩, ⟨(some 19), .mv (.t 18), none, []⟩, ⟨(some 20), .mv (.t 0), (some (19, true)), []⟩, ⟨(some 21), .mv (.t 7), (some (19, true)), []⟩, ⟨(some 22), .idxSl none (.t 20) (.t 21), (some (19, true)), []⟩, ⟨(some 23), .load none (.t 22), (some (19, true)), []⟩, ⟨(some 24), .mv (.t 0), (some (19, true)), []⟩, ⟨(some 25), .mv (.t 7), (some (19, true)), []⟩, ⟨(some 26), .bin .sub (.t 25) (.c (.i .i64 1)), (some (19, true)), []⟩, ⟨(some 27), .idxSl none (.t 24) (.t 26), (some (19, true)), []⟩, ⟨(some 28), .load none (.t 27), (some (19, true)), []⟩, ⟨(some 29), .call (.fn 244) [(.t 23), (.t 28)], (some (19, true)), []⟩, ⟨(some 30), .pick (.t 19) (.t 29) (.c (.b false)), none, []⟩]) (.cond (.t 30) .skip (.exit 2))) 
  (.seq (.block 3 (.draw [⟨(some 33), .mv (.t 0), none, []⟩, ⟨(some 34), .mv (.t 7), none, []⟩, ⟨(some 35), .mv (.t 0), none, []⟩, ⟨(some 36), .mv (.t 7), none, []⟩, ⟨(some 37), .bin .sub (.t 36) (.c (.i .i64 1)), none, []⟩, ⟨(some 38), .mv (.t 0), none, []⟩, ⟨(some 39), .mv (.t 7), none, []⟩, ⟨(some 40), .bin .sub (.t 39) (.c (.i .i64 1)), none, []⟩, ⟨(some 41), .idxSl none (.t 38) (.t 40), none, []⟩, ⟨(some 42), .load none (.t 41), none, []⟩, ⟨(some 43), .mv (.t 0), none, []⟩, ⟨(some 44), .mv (.t 7), none, []⟩, ⟨(some 45), .idxSl none (.t 43) (.t 44), none, []⟩, ⟨(some 46), .load none (.t 45), none, []⟩, ⟨(some 47), .idxSl none (.t 33) (.t 34), none, []⟩, ⟨none, .store none (.t 47) (.t 42), none, []⟩, ⟨(some 48), .idxSl none (.t 35) (.t 37), none, []⟩, ⟨none, .store none (.t 48) (.t 46), none, []⟩])) (.region [⟨(some 31), .mv (.t 7), none, []⟩, ⟨(some 32), .bin .sub (.t 31) (.c (.i .i64 1)), none, []⟩, ⟨(some 7), .mv (.t 32), none, []⟩]))))))) (.region [⟨(some 13), .mv (.t 6), none, []⟩, ⟨(some 14), .bin .add (.t 13) (.c (.i .i64 1)), none, []⟩, ⟨(some 6), .mv (.t 14), none, []⟩])))))))⟩
def c244 : AFunc := ⟨2, 17, [(4, none)], (some 
  (.seq (.region [⟨(some 4), .mv (.c (.b false)), none, []⟩]) 
  (.seq (.region [⟨(some 5), .mv (.t 0), none, []⟩, ⟨(some 6), .call (.fn 283) [(.t 5)], none, []⟩, ⟨(some 7), .mv (.t 6), none, []⟩, ⟨(some 8), .mv (.t 1), (some (7, true)), []⟩, ⟨(some 9), .call (.fn 283) [(.t 8)], (some (7, true)), []⟩, ⟨(some 10), .not (.t 9), (some (7, true)), []⟩, ⟨(some 11), .pick (.t 7) (.t 10) (.c (.b false)), none, []⟩, ⟨(some 12), .mv (.t 11), none, []⟩, ⟨(some 13), .mv (.t 0), (some (12, false)), []⟩, ⟨(some 14), .mv (.t 1), (some (12, false)), []⟩, ⟨(some 15), .bin .lss (.t 13) (.t 14), (some (12, false)), []⟩, ⟨(some 16), .pick (.t 12) (.c (.b true)) (.t 15), none, []⟩, ⟨(some 4), .mv (.t 16), none, []⟩]) .ret)))⟩
def c248 : AFunc := ⟨1, 25, [(2, none)], (some 
  (.seq (.region [⟨(some 2), .mv (.c (.i .i64 0)), none, []⟩]) 
  (.seq 
  (.seq (.region [⟨(some 3), .mv (.t 0), none, []⟩, ⟨(some 4), .bin .geq (.t 3) (.c (.i .u64 4294967296)), none, []⟩]) (.cond (.t 4) 
  (.seq (.region [⟨(some 5), .mv (.t 0), none, []⟩, ⟨(some 6), .bin .shr (.t 5) (.c (.i .u64 32)), none, []⟩, ⟨(some 0), .mv (.t 6), none, []⟩]) (.region [⟨(some 2), .mv (.c (.i .i64 32)), none, []⟩])) .skip)) 
  (.seq 
  (.seq (.region [⟨(some 7), .mv (.t 0), none, []⟩, ⟨(some 8), .bin .geq (.t 7) (.c (.i .u64 65536)), none, []⟩]) (.cond (.t 8) 
  (.seq (.region [⟨(some 9), .mv (.t 0), none, []⟩, ⟨(some 10), .bin .shr (.t 9) (.c (.i .u64 16)), none, []⟩, ⟨(some 0), .mv (.t 10), none, []⟩]) (.region [⟨(some 11), .mv (.t 2), none, []⟩, ⟨(some 12), .bin .add (.t 11) (.c (.i .i64 16)), none, []⟩, ⟨(some 2), .mv (.t 12), none, []⟩])) .skip)) 
  (.seq 
  (.seq (.region [⟨(some 13), .mv (.t 0), none, []⟩, ⟨(some 14), .bin .geq (.t 13) (.c (.i .u64 256)), none, []⟩]) (.cond (.t 14) 
  (.seq (.region [⟨(some 15), .mv (.t 0), none, []⟩, ⟨(some 16), .bin .shr (.t 15) (.c (.i .u64 8)), none, []⟩, ⟨(some 0), .mv (.t 16), none, []⟩]) (.region [⟨(some 17), .mv (.t 2), none, []⟩, ⟨(some 18), .bin .add (.t 17) (.c (.i .i64 8)), none, []⟩, ⟨(some 2), .mv (.t 18), none, []⟩])) .skip)) 
  (.seq (.region [⟨(some 19), .mv (.t 2), none, []⟩, ⟨(some 20), .mv (.t 0), none, []⟩, ⟨(some 21), .conv .u8 (.t 20), none, []⟩, ⟨(some 22), .indexStr (.c (.s [0, 1, 2, 2, 3, 3, 3, 3, 4, 4, 4, 4, 4, 4, 4, 4, 5, 5, 5, 5, 5, 5, 5, 5, 5, 5, 5, 5, 5, 5, 5, 5, 6, 6, 6, 6, 6, 6, 6, 6, 6, 6, 6, 6, 6, 6, 6, 6, 6, 6, 6, 6, 6, 6, 6, 6, 6, 6, 6, 6, 6, 6, 6, 6, 7, 7, 7, 7, 7, 7, 7, 7, 7, 7, 7, 7, 7, 7, 7, 7, 7, 7, 7, 7, 7, 7, 7, 7, 7, 7, 7, 7, 7, 7, 7, 7, 7, 7, 7, 7, 7, 7, 7, 7, 7, 7, 7, 7, 7, 7, 7, 7, 7, 7, 7, 7, 7, 7, 7, 7, 7, 7, 7, 7, 7, 7, 7, 7, 8, 8, 8, 8, 8, 8, 8, 8, 8, 8, 8, 8, 8, 8, 8, 8, 8, 8, 8, 8, 8, 8, 8, 8, 8, 8, 8, 8, 8, 8, 8, 8, 8, 8, 8, 8, 8, 8, 8, 8, 8, 8, 8, 8, 8, 8, 8, 8, 8, 8, 8, 8, 8, 8, 8, 8, 8, 8, 8, 8, 8, 8, 8, 8, 8, 8, 8, 8, 8, 8, 8, 8, 8, 8, 8, 8, 8, 8, 8, 8, 8, 8, 8, 8, 8, 8, 8, 8, 8, 8, 8, 8, 8, 8, 8, 8, 8, 8, 8, 8, 8, 8, 8, 8, 8, 8, 8, 8, 8, 8, 8, 8, 8, 8, 8, 8, 8, 8, 8, 8, 8, 8, 8, 8, 8, 8, 8, 8])) (.t 21), none, []⟩, ⟨(some 23), .conv .i64 (.t 22), none, []⟩, ⟨(some 24), .bin .add (.t 19) (.t 23), none, []⟩, ⟨(some 2), .mv (.t 24), none, []⟩]) .ret))))))⟩
def c249 : AFunc := ⟨1, 9, [(2, none)], (some 
  (.seq (.region [⟨(some 2), .mv (.c (.b false)), none, []⟩]) 
  (.seq (.region [⟨(some 3), .mv (.t 0), none, []⟩, ⟨(some 4), .bin .geq (.t 3) (.c (.i .u8 97)), none, []⟩, ⟨(some 5), .mv (.t 4), none, []⟩, ⟨(some 6), .mv (.t 0), (some (5, true)), []⟩, ⟨(some 7), .bin .leq (.t 6) (.c (.i .u8 116)), (some (5, true)), []⟩, ⟨(some 8), .pick (.t 5) (.t 7) (.c (.b false)), none, []⟩, ⟨(some 2), .mv (.t 8), none, []⟩]) .ret)))⟩
def c263 : AFunc := ⟨1, 5, [(2, none)], (some 
  (.seq (.region [⟨(some 2), .mv (.c .nilsl), none, []⟩]) 
  (.seq (.region [⟨(some 3), .mv (.t 0), none, []⟩, ⟨(some 4), .call (.fn 293) [(.c .nilsl), (.t 3)], none, []⟩, ⟨(some 2), .mv (.t 4), none, []⟩]) .ret)))⟩
def c264 : AFunc := ⟨2, 14, [], (some 
  (.seq (.region [⟨(some 5), .mv (.t 0), none, []⟩, ⟨(some 6), .len 1 (.t 5), none, []⟩, ⟨(some 4), .mv (.t 6), none, []⟩]) (.region [⟨(some 7), .mv (.t 0), none, []⟩, ⟨(some 8), .mv (.t 4), none, []⟩, ⟨(some 9), .mv (.t 4), none, []⟩, ⟨(some 10), .conv .u64 (.t 9), none, []⟩, ⟨(some 11), .call (.fn 200) [(.t 10)], none, []⟩, ⟨(some 12), .mv (.t 1), none, []⟩, ⟨(some 13), .call (.fn 294) [(.t 7), (.c (.i .i64 0)), (.t 8), (.t 11), (.t 12)], none, []⟩])))⟩
def c265 : AFunc := ⟨2, 14, [], (some 
  (.seq (.region [⟨(some 4), .load none (.t 1), none, []⟩, ⟨(some 5), .rangeMap (.t 4), none, []⟩]) (.block 0 (.loop 
  (.seq (.region [⟨(some 6), .nextMap (.t 5), none, []⟩, ⟨(some 7), .extract (.t 6) 0, none, []⟩]) 
  (.seq (.cond (.t 7) .skip (.exit 0)) (.block 1 
  (.seq (.region [⟨(some 8), .entry (.t 5), none, []⟩, ⟨(some 9), .extract (.t 8) 0, none, []⟩, ⟨(some 3), .alloc (.ag [(.s []), (.i .i64 0)]), none, []⟩, ⟨none, .store (some 2) (.t 3) (.t 9), none, []⟩]) 
  (.seq (.region [⟨(some 10), .mv (.t 0), none, []⟩, ⟨(some 11), .load (some 2) (.t 3), none, []⟩, ⟨(some 12), .call (.val (.t 10)) [(.t 11)], none, []⟩, ⟨(some 13), .not (.t 12), none, []⟩]) (.cond (.t 13) .ret .skip))))))))))⟩
def c266 : AFunc := ⟨2, 8, [(4, none)], (some 
  (.seq (.region [⟨(some 4), .mv (.c (.i .i64 0)), none, []⟩]) 
  (.seq (.region [⟨(some 5), .mv (.t 0), none, []⟩, ⟨(some 6), .mv (.t 1), none, []⟩, ⟨(some 7), .call (.fn 295) [(.t 5), (.t 6)], none, []⟩, ⟨(some 4), .mv (.t 7), none, []⟩]) .ret)))⟩
def c268 : AFunc := ⟨2, 71, [], (some (.block 0 (.loop (.block 1 
  (.seq (.block 2 (.loop 
  (.seq 
  (.seq (.draw [⟨(some 5), .load none (.t 1), none, []⟩, ⟨(some 6), .nilCheck (.t 5), none, []⟩, ⟨(some 7), .fieldAddr 0 (some 1) (.t 6), none, []⟩, ⟨(some 8), .fieldAddr 0 none (.t 7), none, []⟩, ⟨(some 9), .load none (.t 8), none, []⟩, ⟨(some 10), .load none (.t 1), none, []⟩, ⟨(some 11), .nilCheck (.t 10), none, []⟩, ⟨(some 12), .fieldAddr 1 none (.t 11), none, []⟩, ⟨(some 13), .load none (.t 12), none, []⟩, ⟨(some 14), .len 0 (.t 13), none, []⟩, ⟨(some 15), .bin .lss (.t 9) (.t 14), none, []⟩, ⟨(some 16), .mv (.t 15), none, []⟩, ⟨(some 17), .load none (.t 1), (some (16, true)), []⟩, ⟨(some 18), .nilCheck (.t 17), (some (16, true)), []⟩, ⟨(some 19), .fieldAddr 1 none (.t 18), (some (16, true)), []⟩, ⟨(some 20), .load none (.t 19), (some (16, true)), []⟩, ⟨(some 21), .load none (.t 1), (some (16, true)), []⟩, ⟨(some 22), .nilCheck (.t 21), (some (16, true)), []⟩, ⟨(some 23), .fieldAddr 0 (some 1) (.t 22), (some (16, true)), []⟩, ⟨(some 24), .fieldAddr 0 none (.t 23), (some (16, true)), []⟩, ⟨(some 25), .load none (.t 24), (some (16, true)), []⟩, ⟨(some 26), .indexStr (.t 20) (.t 25), (some (16, true)), []⟩, ⟨(some 27), .call (.fn 269) [(.t 26)], (some (16, true)), []⟩, ⟨(some 28), .pick (.t 16) (.t 27) (.c (.b false)), none, []⟩]) (.cond (.t 28) .skip (.exit 2))) (.block 3 (.region [⟨(some 29), .load none (.t 1), none, []⟩, ⟨(some 30), .nilCheck (.t 29), none, []⟩, ⟨(some 31), .fieldAddr 0 (some 1) (.t 30), none, []⟩, ⟨(some 32), .fieldAddr 0 none (.t 31), none, []⟩, ⟨(some 33), .load none (.t 32), none, []⟩, ⟨(some 34), .bin .add (.t 33) (.c (.i .i64 1)), none, []⟩, ⟨(some 35), .nilCheck (.t 29), none, []⟩, ⟨(some 36), .fieldAddr 0 (some 1) (.t 35), none, []⟩, ⟨(some 37), .fieldAddr 0 none (.t 36), none, []⟩, ⟨none, .store none (.t 37) (.t 34), none, []⟩]))))) 
  (.seq 
  (.seq (.draw [⟨(some 38), .load none (.t 1), none, []⟩, ⟨(some 39), .nilCheck (.t 38), none, []⟩, ⟨(some 40), .fieldAddr 0 (some 1) (.t 39), none, []⟩, ⟨(some 41), .fieldAddr 0 none (.t 40), none, []⟩, ⟨(some 42), .load none (.t 41), none, []⟩, ⟨(some 43), .load none (.t 1), none, []⟩, ⟨(some 44), .nilCheck (.t 43), none, []⟩, ⟨(some 45), .fieldAddr 1 none (.t 44), none, []⟩, ⟨(some 46), .load none (.t 45), none, []⟩, ⟨(some 47), .len 0 (.t 46), none, []⟩, ⟨(some 48), .bin .eql (.t 42) (.t 47), none, []⟩]) (.cond (.t 48) 
  (.seq (.region [⟨(some 49), .mv (.t 0), none, []⟩, ⟨(some 50), .load none (.t 1), none, []⟩, ⟨(some 51), .nilCheck (.t 50), none, []⟩, ⟨(some 52), .fieldAddr 0 (some 1) (.t 51), none, []⟩, ⟨(some 53), .fieldAddr 0 none (.t 52), none, []⟩, ⟨(some 54), .load none (.t 53), none, []⟩, ⟨(some 55), .build [(.i .u8 0), (.s []), (.i .i64 0)] [(0, 1, (.c (.i .u8 5))), (2, 1, (.t 54))], none, []⟩, ⟨(some 56), .call (.val (.t 49)) [(.t 55), (.c (.i .i64 0))], none, []⟩]) .ret) .skip)) 
  (.seq (.region [⟨(some 58), .load none (.t 1), none, []⟩, ⟨(some 59), .call (.fn 270) [(.t 58)], none, []⟩, ⟨(some 57), .mv (.t 59), none, []⟩, ⟨(some 60), .extract (.t 57) 0, none, []⟩, ⟨(some 61), .extract (.t 57) 1, none, []⟩, ⟨(some 3), .alloc (.ag [(.i .u8 0), (.s []), (.i .i64 0)]), none, []⟩, ⟨none, .store (some 3) (.t 3) (.t 60), none, []⟩, ⟨(some 4), .mv (.t 61), none, []⟩]) 
  (.seq (.region [⟨(some 62), .mv (.t 0), none, []⟩, ⟨(some 63), .load (some 3) (.t 3), none, []⟩, ⟨(some 64), .mv (.t 4), none, []⟩, ⟨(some 65), .call (.val (.t 62)) [(.t 63), (.t 64)], none, []⟩, ⟨(some 66), .not (.t 65), none, []⟩, ⟨(some 67), .mv (.t 66), none, []⟩, ⟨(some 68), .mv (.t 4), (some (67, false)), []⟩, ⟨(some 69), .bin .neq (.t 68) (.c (.i .i64 0)), (some (67, false)), []⟩, ⟨(some 70), .pick (.t 67) (.c (.b true)) (.t 69), none, []⟩]) (.cond (.t 70) .ret .skip)))))))))⟩
def c269 : AFunc := ⟨1, 17, [(2, none)], (some 
  (.seq (.region [⟨(some 2), .mv (.c (.b false)), none, []⟩]) 
  (.seq (.region [⟨(some 3), .mv (.t 0), none, []⟩, ⟨(some 4), .bin .eql (.t 3) (.c (.i .u8 32)), none, []⟩, ⟨(some 5), .mv (.t 4), none, []⟩, ⟨(some 6), .mv (.t 0), (some (5, false)), []⟩, ⟨(some 7), .bin .eql (.t 6) (.c (.i .u8 9)), (some (5, false)), []⟩, ⟨(some 8), .pick (.t 5) (.c (.b true)) (.t 7), none, []⟩, ⟨(some 9), .mv (.t 8), none, []⟩, ⟨(some 10), .mv (.t 0), (some (9, false)), []⟩, ⟨(some 11), .bin .eql (.t 10) (.c (.i .u8 10)), (some (9, false)), []⟩, ⟨(some 12), .pick (.t 9) (.c (.b true)) (.t 11), none, []⟩, ⟨(some 13), .mv (.t 12), none, []⟩, ⟨(some 14), .mv (.t 0), (some (13, false)), []⟩, ⟨(some 15), .bin .eql (.t 14) (.c (.i .u8 13)), (some (13, false)), []⟩, ⟨(some 16), .pick (.t 13) (.c (.b true)) (.t 15), none, []⟩, ⟨(some 2), .mv (.t 16), none, []⟩]) .ret)))⟩
def c270 : AFunc := ⟨1, 64, [(2, (some (some 3))), (3, none)], (some 
  (.seq (.region [⟨(some 2), .alloc (.ag [(.i .u8 0), (.s []), (.i .i64 0)]), none, []⟩, ⟨(some 3), .mv (.c (.i .i64 0)), none, []⟩]) 
  (.seq 
  (.seq (.region [⟨(some 10), .mv (.t 0), none, []⟩, ⟨(some 11), .call (.fn 296) [(.t 10)], none, []⟩, ⟨(some 12), .mv (.c (.i .i64 0)), none, []⟩]) (.block 0 (.loop 
  (.seq (.region [⟨(some 13), .bin .lss (.t 12) (.c (.i .i64 3)), none, []⟩]) 
  (.seq (.cond (.t 13) .skip (.exit 0)) 
  (.seq (.block 1 
  (.seq (.region [⟨(some 14), .indexAgg 3 (some 2) (.t 11) (.t 12), none, []⟩, ⟨(some 5), .alloc (.ag [.nf, .nf]), none, []⟩, ⟨none, .store (some 2) (.t 5) (.t 14), none, []⟩]) 
  (.seq 
  (.seq (.draw [⟨(some 15), .fieldAddr 0 none (.t 5), none, []⟩, ⟨(some 16), .load none (.t 15), none, []⟩, ⟨(some 17), .mv (.t 0), none, []⟩, ⟨(some 18), .nilCheck (.t 17), none, []⟩, ⟨(some 19), .fieldAddr 1 none (.t 18), none, []⟩, ⟨(some 20), .load none (.t 19), none, []⟩, ⟨(some 21), .mv (.t 0), none, []⟩, ⟨(some 22), .nilCheck (.t 21), none, []⟩, ⟨(some 23), .fieldAddr 0 (some 1) (.t 22), none, []⟩, ⟨(some 24), .fieldAddr 0 none (.t 23), none, []⟩, ⟨(some 25), .load none (.t 24), none, []⟩, ⟨(some 26), .indexStr (.t 20) (.t 25), none, []⟩, ⟨(some 27), .call (.val (.t 16)) [(.t 26)], none, []⟩, ⟨(some 28), .not (.t 27), none, []⟩]) (.cond (.t 28) (.exit 1) .skip)) 
  (.seq (.region [⟨(some 30), .fieldAddr 1 none (.t 5), none, []⟩, ⟨(some 31), .load none (.t 30), none, []⟩, ⟨(some 32), .call (.val (.t 31)) [], none, []⟩, ⟨(some 29), .mv (.t 32), none, []⟩, ⟨(some 33), .extract (.t 29) 0, none, []⟩, ⟨(some 34), .extract (.t 29) 1, none, []⟩, ⟨(some 35), .extract (.t 29) 2, none, []⟩, ⟨(some 6), .mv (.t 33), none, []⟩, ⟨(some 7), .mv (.t 34), none, []⟩, ⟨(some 8), .mv (.t 35), none, []⟩]) 
  (.seq (.region [⟨(some 36), .mv (.t 6), none, []⟩, ⟨(some 37), .mv (.t 7), none, []⟩, ⟨(some 38), .mv (.t 0), none, []⟩, ⟨(some 39), .nilCheck (.t 38), none, []⟩, ⟨(some 40), .fieldAddr 0 (some 1) (.t 39), none, []⟩, ⟨(some 41), .fieldAddr 0 none (.t 40), none, []⟩, ⟨(some 42), .load none (.t 41), none, []⟩, ⟨(some 43), .build [(.i .u8 0), (.s []), (.i .i64 0)] [(0, 1, (.t 36)), (1, 1, (.t 37)), (2, 1, (.t 42))], none, []⟩, ⟨(some 9), .alloc (.ag [(.i .u8 0), (.s []), (.i .i64 0)]), none, []⟩, ⟨none, .store (some 3) (.t 9) (.t 43), none, []⟩]) 
  (.seq (.region [⟨(some 44), .mv (.t 0), none, []⟩, ⟨(some 45), .nilCheck (.t 44), none, []⟩, ⟨(some 46), .fieldAddr 0 (some 1) (.t 45), none, []⟩, ⟨(some 47), .fieldAddr 0 none (.t 46), none, []⟩, ⟨(some 48), .load none (.t 47), none, []⟩, ⟨(some 49), .mv (.t 7), none, []⟩, ⟨(some 50), .len 0 (.t 49), none, []⟩, ⟨(some 51), .bin .add (.t 48) (.t 50), none, []⟩, ⟨(some 52), .nilCheck (.t 44), none, []⟩, ⟨(some 53), .fieldAddr 0 (some 1) (.t 52), none, []⟩, ⟨(some 54), .fieldAddr 0 none (.t 53), none, []⟩, ⟨none, .store none (.t 54) (.t 51), none, []⟩]) 
  (.seq (.region [⟨(some 55), .load (some 3) (.t 9), none, []⟩, ⟨(some 56), .mv (.t 8), none, []⟩, ⟨none, .store (some 3) (.t 2) (.t 55), none, []⟩, ⟨(some 3), .mv (.t 56), none, []⟩]) .ret))))))) (.region [⟨(some 57), .bin .add (.t 12) (.c (.i .i64 1)), none, []⟩, ⟨(some 12), .mv (.t 57), none, []⟩]))))))) 
  (.seq (.region [⟨(some 58), .mv (.t 0), none, []⟩, ⟨(some 59), .nilCheck (.t 58), none, []⟩, ⟨(some 60), .fieldAddr 0 (some 1) (.t 59), none, []⟩, ⟨(some 61), .fieldAddr 0 none (.t 60), none, []⟩, ⟨(some 62), .load none (.t 61), none, []⟩, ⟨(some 63), .build [(.i .u8 0), (.s []), (.i .i64 0)] [(2, 1, (.t 62))], none, []⟩, ⟨none, .store (some 3) (.t 2) (.t 63), none, []⟩, ⟨(some 3), .mv (.c (.i .i64 40)), none, []⟩]) .ret))))⟩
def c271 : AFunc := ⟨1, 9, [], (some 
  (.seq (.region [⟨(some 2), .mv (.t 0), none, []⟩, ⟨(some 3), .nilCheck (.t 2), none, []⟩, ⟨(some 4), .fieldAddr 2 none (.t 3), none, []⟩, ⟨(some 5), .load none (.t 4), none, []⟩, ⟨(some 6), .bin .gtr (.t 5) (.c (.i .i64 120)), none, []⟩]) (.cond (.t 6) (.region [⟨(some 7), .mv (.t 0), none, []⟩, ⟨(some 8), .call (.fn 185) [(.t 7), (.c (.i .i64 51))], none, []⟩]) .skip)))⟩
def c272 : AFunc := ⟨0, 3, [(0, none)], (some 
  (.seq (.region [⟨(some 0), .mv (.c (.m none)), none, []⟩]) 
  (.seq (.region [⟨(some 1), .mkMap, none, []⟩, ⟨none, .mapUpd (.inl 1) (.t 1) (.c (.s [126])) (.c (.i .u8 3)), none, []⟩, ⟨none, .mapUpd (.inl 1) (.t 1) (.c (.s [91, 93])) (.c (.i .u8 10)), none, []⟩, ⟨none, .mapUpd (.inl 1) (.t 1) (.c (.s [60, 62])) (.c (.i .u8 11)), none, []⟩, ⟨none, .mapUpd (.inl 1) (.t 1) (.c (.s [110, 101, 120, 116])) (.c (.i .u8 12)), none, []⟩, ⟨none, .mapUpd (.inl 1) (.t 1) (.c (.s [97, 108, 119, 97, 121, 115])) (.c (.i .u8 13)), none, []⟩, ⟨none, .mapUpd (.inl 1) (.t 1) (.c (.s [97, 108, 108])) (.c (.i .u8 8)), none, []⟩, ⟨none, .mapUpd (.inl 1) (.t 1) (.c (.s [115, 111, 109, 101])) (.c (.i .u8 9)), none, []⟩, ⟨(some 2), .mv (.t 1), none, []⟩, ⟨(some 0), .mv (.t 2), none, []⟩]) .ret)))⟩
def c273 : AFunc := ⟨1, 46, [(2, (some (some 4)))], (some 
  (.seq (.region [⟨(some 2), .alloc (.ag [(.i .u8 0), (.s []), .nilsl, .nilsl]), none, []⟩]) 
  (.seq 
  (.seq (.region [⟨(some 6), .mv (.t 0), none, []⟩, ⟨(some 7), .call (.fn 184) [(.t 6)], none, []⟩, ⟨(some 3), .alloc (.ag [(.i .u8 0), (.s []), (.i .i64 0)]), none, []⟩, ⟨none, .store (some 3) (.t 3) (.t 7), none, []⟩]) (.block 0 
  (.seq (.region [⟨(some 9), .mv (.t 0), none, []⟩, ⟨(some 10), .call (.fn 228) [(.t 9), (.c (.s [40]))], none, []⟩, ⟨(some 8), .mv (.t 10), none, []⟩]) (.cond (.t 8) 
  (.seq (.region [⟨(some 11), .mv (.t 0), none, []⟩, ⟨(some 12), .nilCheck (.t 11), none, []⟩, ⟨(some 13), .fieldAddr 2 none (.t 12), none, []⟩, ⟨(some 14), .load none (.t 13), none, []⟩, ⟨(some 15), .bin .add (.t 14) (.c (.i .i64 1)), none, []⟩, ⟨(some 16), .nilCheck (.t 11), none, []⟩, ⟨(some 17), .fieldAddr 2 none (.t 16), none, []⟩, ⟨none, .store none (.t 17) (.t 15), none, []⟩]) 
  (.seq (.region [⟨(some 18), .mv (.t 0), none, []⟩, ⟨(some 19), .call (.fn 132) [(.t 18)], none, []⟩, ⟨(some 4), .alloc (.ag [(.i .u8 0), (.s []), .nilsl, .nilsl]), none, []⟩, ⟨none, .store (some 4) (.t 4) (.t 19), none, []⟩]) 
  (.seq (.region [⟨(some 20), .mv (.t 0), none, []⟩, ⟨(some 21), .nilCheck (.t 20), none, []⟩, ⟨(some 22), .fieldAddr 2 none (.t 21), none, []⟩, ⟨(some 23), .load none (.t 22), none, []⟩, ⟨(some 24), .bin .sub (.t 23) (.c (.i .i64 1)), none, []⟩, ⟨(some 25), .nilCheck (.t 20), none, []⟩, ⟨(some 26), .fieldAddr 2 none (.t 25), none, []⟩, ⟨none, .store none (.t 26) (.t 24), none, []⟩]) 
  (.seq (.region [⟨(some 27), .mv (.t 0), none, []⟩, ⟨(some 28), .call (.fn 297) [(.t 27), (.c (.s [41]))], none, []⟩]) 
  (.seq (.region [⟨(some 29), .load (some 4) (.t 4), none, []⟩, ⟨none, .store (some 4) (.t 2) (.t 29), none, []⟩]) .ret))))) 
  (.seq (.region [⟨(some 31), .mv (.t 0), none, []⟩, ⟨(some 32), .call (.fn 228) [(.t 31), (.c (.s [102, 97, 108, 115, 101]))], none, []⟩, ⟨(some 30), .mv (.t 32), none, []⟩]) (.cond (.t 30) 
  (.seq (.region [⟨(some 33), .build [(.i .u8 0), (.s []), .nilsl, .nilsl] [(0, 1, (.c (.i .u8 2)))], none, []⟩, ⟨none, .store (some 4) (.t 2) (.t 33), none, []⟩]) .ret) 
  (.seq (.region [⟨(some 35), .fieldAddr 0 none (.t 3), none, []⟩, ⟨(some 36), .load none (.t 35), none, []⟩, ⟨(some 37), .bin .eql (.t 36) (.c (.i .u8 2)), none, []⟩, ⟨(some 34), .mv (.t 37), none, []⟩]) (.cond (.t 34) 
  (.seq (.region [⟨(some 38), .mv (.t 0), none, []⟩, ⟨(some 39), .call (.fn 298) [(.t 38)], none, []⟩, ⟨none, .store (some 4) (.t 2) (.t 39), none, []⟩]) .ret) .skip)))))))) 
  (.seq (.region [⟨(some 40), .mv (.t 0), none, []⟩, ⟨(some 41), .call (.fn 274) [(.t 40), (.c (.i .u8 1)), (.c (.f (.func 91) [] []))], none, []⟩, ⟨(some 5), .mv (.t 41), none, []⟩]) 
  (.seq (.region [⟨(some 42), .mv (.t 5), none, []⟩, ⟨(some 43), .mv (.t 0), none, []⟩, ⟨(some 44), .call (.fn 299) [(.t 43)], none, []⟩, ⟨(some 45), .build [(.i .u8 0), (.s []), .nilsl, .nilsl] [(0, 1, (.c (.i .u8 1))), (1, 1, (.t 42)), (2, 1, (.t 44))], none, []⟩, ⟨none, .store (some 4) (.t 2) (.t 45), none, []⟩]) .ret)))))⟩
def c274 : AFunc := ⟨3, 32, [(6, none)], (some 
  (.seq (.region [⟨(some 6), .mv (.c (.s [])), none, []⟩]) 
  (.seq (.region [⟨(some 8), .mv (.t 0), none, []⟩, ⟨(some 9), .call (.fn 184) [(.t 8)], none, []⟩, ⟨(some 7), .alloc (.ag [(.i .u8 0), (.s []), (.i .i64 0)]), none, []⟩, ⟨none, .store (some 3) (.t 7) (.t 9), none, []⟩]) 
  (.seq 
  (.seq (.region [⟨(some 10), .fieldAddr 0 none (.t 7), none, []⟩, ⟨(some 11), .load none (.t 10), none, []⟩, ⟨(some 12), .mv (.t 1), none, []⟩, ⟨(some 13), .bin .neq (.t 11) (.t 12), none, []⟩, ⟨(some 14), .mv (.t 13), none, []⟩, ⟨(some 15), .mv (.t 2), (some (14, false)), []⟩, ⟨(some 16), .fieldAddr 1 none (.t 7), (some (14, false)), []⟩, ⟨(some 17), .load none (.t 16), (some (14, false)), []⟩, ⟨(some 18), .call (.val (.t 15)) [(.t 17)], (some (14, false)), []⟩, ⟨(some 19), .not (.t 18), (some (14, false)), []⟩, ⟨(some 20), .pick (.t 14) (.c (.b true)) (.t 19), none, []⟩]) (.cond (.t 20) (.region [⟨(some 21), .mv (.t 0), none, []⟩, ⟨(some 22), .call (.fn 185) [(.t 21), (.c (.i .i64 50))], none, []⟩]) .skip)) 
  (.seq (.region [⟨(some 23), .mv (.t 0), none, []⟩, ⟨(some 24), .nilCheck (.t 23), none, []⟩, ⟨(some 25), .fieldAddr 1 none (.t 24), none, []⟩, ⟨(some 26), .load none (.t 25), none, []⟩, ⟨(some 27), .bin .add (.t 26) (.c (.i .i64 1)), none, []⟩, ⟨(some 28), .nilCheck (.t 23), none, []⟩, ⟨(some 29), .fieldAddr 1 none (.t 28), none, []⟩, ⟨none, .store none (.t 29) (.t 27), none, []⟩]) 
  (.seq (.region [⟨(some 30), .fieldAddr 1 none (.t 7), none, []⟩, ⟨(some 31), .load none (.t 30), none, []⟩, ⟨(some 6), .mv (.t 31), none, []⟩]) .ret))))))⟩
def c283 : AFunc := ⟨1, 6, [(2, none)], (some 
  (.seq (.region [⟨(some 2), .mv (.c (.b false)), none, []⟩]) 
  (.seq (.region [⟨(some 3), .mv (.t 0), none, []⟩, ⟨(some 4), .mv (.t 0), none, []⟩, ⟨(some 5), .bin .neq (.t 3) (.t 4), none, []⟩, ⟨(some 2), .mv (.t 5), none, []⟩]) .ret)))⟩
def c293 : AFunc := ⟨2, 13, [(4, none)], (some 
  (.seq (.region [⟨(some 2), .box (.t 0), none, []⟩, ⟨(some 4), .mv (.c .nilsl), none, []⟩]) 
  (.seq 
  (.seq (.region [⟨(some 6), .mv (.t 1), none, []⟩]) (.block 0 (.rangeFunc (.t 6) [7] (.region [⟨(some 5), .alloc (.ag [(.s []), (.i .i64 0)]), none, []⟩, ⟨none, .store (some 2) (.t 5) (.t 7), none, []⟩]) (.block 1 (.region [⟨(some 8), .load none (.t 2), none, []⟩, ⟨(some 9), .load (some 2) (.t 5), none, []⟩, ⟨(some 10), .buildSlice (some 2) 1 [(.s []), (.i .i64 0)] [(0, (.t 9))], none, []⟩, ⟨(some 11), .append (some 2) 24 (.t 8) (.t 10), none, []⟩, ⟨none, .store none (.t 2) (.t 11), none, []⟩]))))) 
  (.seq (.region [⟨(some 12), .load none (.t 2), none, []⟩, ⟨(some 4), .mv (.t 12), none, []⟩]) .ret))))⟩
def c294 : AFunc := ⟨5, 148, [], (some 
  (.seq (.region [⟨(some 10), .mv (.c (.b true)), none, []⟩]) 
  (.seq (.region [⟨(some 11), .mv (.c (.b true)), none, []⟩]) (.block 0 (.loop (.block 1 
  (.seq (.region [⟨(some 21), .mv (.t 2), none, []⟩, ⟨(some 22), .mv (.t 1), none, []⟩, ⟨(some 23), .bin .sub (.t 21) (.t 22), none, []⟩, ⟨(some 12), .mv (.t 23), none, []⟩]) 
  (.seq 
  (.seq (.region [⟨(some 24), .mv (.t 12), none, []⟩, ⟨(some 25), .bin .leq (.t 24) (.c (.i .i64 12)), none, []⟩]) (.cond (.t 25) 
  (.seq (.region [⟨(some 26), .mv (.t 0), none, []⟩, ⟨(some 27), .mv (.t 1), none, []⟩, ⟨(some 28), .mv (.t 2), none, []⟩, ⟨(some 29), .mv (.t 4), none, []⟩, ⟨(some 30), .call (.fn 306) [(.t 26), (.t 27), (.t 28), (.t 29)], none, []⟩]) .ret) .skip)) 
  (.seq 
  (.seq (.region [⟨(some 31), .mv (.t 3), none, []⟩, ⟨(some 32), .bin .eql (.t 31) (.c (.i .i64 0)), none, []⟩]) (.cond (.t 32) 
  (.seq (.region [⟨(some 33), .mv (.t 0), none, []⟩, ⟨(some 34), .mv (.t 1), none, []⟩, ⟨(some 35), .mv (.t 2), none, []⟩, ⟨(some 36), .mv (.t 4), none, []⟩, ⟨(some 37), .call (.fn 307) [(.t 33), (.t 34), (.t 35), (.t 36)], none, []⟩]) .ret) .skip)) 
  (.seq 
  (.seq (.region [⟨(some 38), .mv (.t 10), none, []⟩, ⟨(some 39), .not (.t 38), none, []⟩]) (.cond (.t 39) 
  (.seq (.region [⟨(some 40), .mv (.t 0), none, []⟩, ⟨(some 41), .mv (.t 1), none, []⟩, ⟨(some 42), .mv (.t 2), none, []⟩, ⟨(some 43), .mv (.t 4), none, []⟩, ⟨(some 44), .call (.fn 308) [(.t 40), (.t 41), (.t 42), (.t 43)], none, []⟩]) (.region [⟨(some 45), .mv (.t 3), none, []⟩, ⟨(some 46), .bin .sub (.t 45) (.c (.i .i64 1)), none, []⟩, ⟨(some 3), .mv (.t 46), none, []⟩])) .skip)) 
  (.seq (.region [⟨(some 48), .mv (.t 0), none, []⟩, ⟨(some 49), .mv (.t 1), none, []⟩, ⟨(some 50), .mv (.t 2), none, []⟩, ⟨(some 51), .mv (.t 4), none, []⟩, ⟨(some 52), .call (.fn 309) [(.t 48), (.t 49), (.t 50), (.t 51)], none, []⟩, ⟨(some 47), .mv (.t 52), none, []⟩, ⟨(some 53), .extract (.t 47) 0, none, []⟩, ⟨(some 54), .extract (.t 47) 1, none, []⟩, ⟨(some 13), .mv (.t 53), none, []⟩, ⟨(some 14), .mv (.t 54), none, []⟩]) 
  (.seq 
  (.seq (.region [⟨(some 55), .mv (.t 14), none, []⟩, ⟨(some 56), .bin .eql (.t 55) (.c (.i .i64 2)), none, []⟩]) (.cond (.t 56) 
  (.seq (.region [⟨(some 57), .mv (.t 0), none, []⟩, ⟨(some 58), .mv (.t 1), none, []⟩, ⟨(some 59), .mv (.t 2), none, []⟩, ⟨(some 60), .mv (.t 4), none, []⟩, ⟨(some 61), .call (.fn 310) [(.t 57), (.t 58), (.t 59), (.t 60)], none, []⟩]) 
  (.seq (.region [⟨(some 62), .mv (.t 2), none, []⟩, ⟨(some 63), .bin .sub (.t 62) (.c (.i .i64 1)), none, []⟩, ⟨(some 64), .mv (.t 13), none, []⟩, ⟨(some 65), .mv (.t 1), none, []⟩, ⟨(some 66), .bin .sub (.t 64) (.t 65), none, []⟩, ⟨(some 67), .bin .sub (.t 63) (.t 66), none, []⟩, ⟨(some 13), .mv (.t 67), none, []⟩]) (.region [⟨(some 14), .mv (.c (.i .i64 1)), none, []⟩]))) .skip)) 
  (.seq 
  (.seq (.region [⟨(some 68), .mv (.t 10), none, []⟩, ⟨(some 69), .mv (.t 68), none, []⟩, ⟨(some 70), .mv (.t 11), (some (69, true)), []⟩, ⟨(some 71), .pick (.t 69) (.t 70) (.c (.b false)), none, []⟩, ⟨(some 72), .mv (.t 71), none, []⟩, ⟨(some 73), .mv (.t 14), (some (72, true)), []⟩, ⟨(some 74), .bin .eql (.t 73) (.c (.i .i64 1)), (some (72, true)), []⟩, ⟨(some 75), .pick (.t 72) (.t 74) (.c (.b false)), none, []⟩]) (.cond (.t 75) 
  (.seq (.region [⟨(some 76), .mv (.t 0), none, []⟩, ⟨(some 77), .mv (.t 1), none, []⟩, ⟨(some 78), .mv (.t 2), none, []⟩, ⟨(some 79), .mv (.t 4), none, []⟩, ⟨(some 80), .call (.fn 311) [(.t 76), (.t 77), (.t 78), (.t 79)], none, []⟩]) (.cond (.t 80) .ret .skip)) .skip)) 
  (.seq 
  (.seq (.draw [⟨(some 81), .mv (.t 1), none, []⟩, ⟨(some 82), .bin .gtr (.t 81) (.c (.i .i64 0)), none, []⟩, ⟨(some 83), .mv (.t 82), none, []⟩, ⟨(some 84), .mv (.t 4), (some (83, true)), []⟩, ⟨(some 85), .mv (.t 0), (some (83, true)), []⟩, ⟨(some 86), .mv (.t 1), (some (83, true)), []⟩, ⟨(some 87), .bin .sub (.t 86) (.c (.i .i64 1)), (some (83, true)), []⟩, ⟨(some 88), .idxSl (some 2) (.t 85) (.t 87), (some (83, true)), []⟩, ⟨(some 89), .load (some 2) (.t 88), (some (83, true)), []⟩, ⟨(some 90), .mv (.t 0), (some (83, true)), []⟩, ⟨(some 91), .mv (.t 13), (some (83, true)), []⟩, ⟨(some 92), .idxSl (some 2) (.t 90) (.t 91), (some (83, true)), []⟩, ⟨(some 93), .load (some 2) (.t 92), (some (83, true)), []⟩, ⟨(some 94), .call (.val (.t 84)) [(.t 89), (.t 93)], (some (83, true)), []⟩, ⟨(some 95), .bin .lss (.t 94) (.c (.i .i64 0)), (some (83, true)), []⟩, ⟨(some 96), .not (.t 95), (some (83, true)), []⟩, ⟨(some 97), .pick (.t 83) (.t 96) (.c (.b false)), none, []⟩]) (.cond (.t 97) 
  (.seq (.region [⟨(some 98), .mv (.t 0), none, []⟩, ⟨(some 99), .mv (.t 1), none, []⟩, ⟨(some 100), .mv (.t 2), none, []⟩, ⟨(some 101), .mv (.t 13), none, []⟩, ⟨(some 102), .mv (.t 4), none, []⟩, ⟨(some 103), .call (.fn 312) [(.t 98), (.t 99), (.t 100), (.t 101), (.t 102)], none, []⟩, ⟨(some 15), .mv (.t 103), none, []⟩]) 
  (.seq (.region [⟨(some 104), .mv (.t 15), none, []⟩, ⟨(some 1), .mv (.t 104), none, []⟩]) (.exit 1))) .skip)) 
  (.seq (.region [⟨(some 106), .mv (.t 0), none, []⟩, ⟨(some 107), .mv (.t 1), none, []⟩, ⟨(some 108), .mv (.t 2), none, []⟩, ⟨(some 109), .mv (.t 13), none, []⟩, ⟨(some 110), .mv (.t 4), none, []⟩, ⟨(some 111), .call (.fn 313) [(.t 106), (.t 107), (.t 108), (.t 109), (.t 110)], none, []⟩, ⟨(some 105), .mv (.t 111), none, []⟩, ⟨(some 112), .extract (.t 105) 0, none, []⟩, ⟨(some 113), .extract (.t 105) 1, none, []⟩, ⟨(some 16), .mv (.t 112), none, []⟩, ⟨(some 17), .mv (.t 113), none, []⟩]) 
  (.seq (.region [⟨(some 114), .mv (.t 17), none, []⟩, ⟨(some 11), .mv (.t 114), none, []⟩]) 
  (.seq (.region [⟨(some 115), .mv (.t 16), none, []⟩, ⟨(some 116), .mv (.t 1), none, []⟩, ⟨(some 117), .bin .sub (.t 115) (.t 116), none, []⟩, ⟨(some 118), .mv (.t 2), none, []⟩, ⟨(some 119), .mv (.t 16), none, []⟩, ⟨(some 120), .bin .sub (.t 118) (.t 119), none, []⟩, ⟨(some 18), .mv (.t 117), none, []⟩, ⟨(some 19), .mv (.t 120), none, []⟩]) 
  (.seq (.region [⟨(some 121), .mv (.t 12), none, []⟩, ⟨(some 122), .bin .quo (.t 121) (.c (.i .i64 8)), none, []⟩, ⟨(some 20), .mv (.t 122), none, []⟩]) 
  (.seq (.region [⟨(some 123), .mv (.t 18), none, []⟩, ⟨(some 124), .mv (.t 19), none, []⟩, ⟨(some 125), .bin .lss (.t 123) (.t 124), none, []⟩]) (.cond (.t 125) 
  (.seq (.region [⟨(some 126), .mv (.t 18), none, []⟩, ⟨(some 127), .mv (.t 20), none, []⟩, ⟨(some 128), .bin .geq (.t 126) (.t 127), none, []⟩, ⟨(some 10), .mv (.t 128), none, []⟩]) 
  (.seq (.region [⟨(some 129), .mv (.t 0), none, []⟩, ⟨(some 130), .mv (.t 1), none, []⟩, ⟨(some 131), .mv (.t 16), none, []⟩, ⟨(some 132), .mv (.t 3), none, []⟩, ⟨(some 133), .mv (.t 4), none, []⟩, ⟨(some 134), .call (.fn 294) [(.t 129), (.t 130), (.t 131), (.t 132), (.t 133)], none, []⟩]) (.region [⟨(some 135), .mv (.t 16), none, []⟩, ⟨(some 136), .bin .add (.t 135) (.c (.i .i64 1)), none, []⟩, ⟨(some 1), .mv (.t 136), none, []⟩]))) 
  (.seq (.region [⟨(some 137), .mv (.t 19), none, []⟩, ⟨(some 138), .mv (.t 20), none, []⟩, ⟨(some 139), .bin .geq (.t 137) (.t 138), none, []⟩, ⟨(some 10), .mv (.t 139), none, []⟩]) 
  (.seq (.region [⟨(some 140), .mv (.t 0), none, []⟩, ⟨(some 141), .mv (.t 16), none, []⟩, ⟨(some 142), .bin .add (.t 141) (.c (.i .i64 1)), none, []⟩, ⟨(some 143), .mv (.t 2), none, []⟩, ⟨(some 144), .mv (.t 3), none, []⟩, ⟨(some 145), .mv (.t 4), none, []⟩, ⟨(some 146), .call (.fn 294) [(.t 140), (.t 142), (.t 143), (.t 144), (.t 145)], none, []⟩]) (.region [⟨(some 147), .mv (.t 16), none, []⟩, ⟨(some 2), .mv (.t 147), none, []⟩])))))))))))))))))))))))⟩
def c296 : AFunc := ⟨1, 13, [(2, (some (some 6)))], (some 
  (.seq (.region [⟨(some 2), .alloc (.ag [.nf, .nf, .nf, .nf, .nf, .nf]), none, []⟩]) 
  (.seq (.region [⟨(some 3), .mv (.t 0), none, []⟩, ⟨(some 4), .mkFunc (.func 315) [(.t 3)] [], none, []⟩, ⟨(some 5), .build [.nf, .nf] [(0, 1, (.c (.f (.func 314) [] []))), (1, 1, (.t 4))], none, []⟩, ⟨(some 6), .mv (.t 0), none, []⟩, ⟨(some 7), .mkFunc (.func 317) [(.t 6)] [], none, []⟩, ⟨(some 8), .build [.nf, .nf] [(0, 1, (.c (.f (.func 316) [] []))), (1, 1, (.t 7))], none, []⟩, ⟨(some 9), .mv (.t 0), none, []⟩, ⟨(some 10), .mkFunc (.func 319) [(.t 9)] [], none, []⟩, ⟨(some 11), .build [.nf, .nf] [(0, 1, (.c (.f (.func 318) [] []))), (1, 1, (.t 10))], none, []⟩, ⟨(some 12), .build [.nf, .nf, .nf, .nf, .nf, .nf] [(0, 2, (.t 5)), (2, 2, (.t 8)), (4, 2, (.t 11))], none, []⟩, ⟨none, .store (some 6) (.t 2) (.t 12), none, []⟩]) .ret)))⟩
def c297 : AFunc := ⟨2, 10, [], (some 
  (.seq (.region [⟨(some 4), .mv (.t 0), none, []⟩, ⟨(some 5), .mv (.t 1), none, []⟩, ⟨(some 6), .call (.fn 228) [(.t 4), (.t 5)], none, []⟩, ⟨(some 7), .not (.t 6), none, []⟩]) (.cond (.t 7) (.region [⟨(some 8), .mv (.t 0), none, []⟩, ⟨(some 9), .call (.fn 185) [(.t 8), (.c (.i .i64 50))], none, []⟩]) .skip)))⟩
def c298 : AFunc := ⟨1, 31, [(2, (some (some 4)))], (some 
  (.seq (.region [⟨(some 2), .alloc (.ag [(.i .u8 0), (.s []), .nilsl, .nilsl]), none, []⟩]) 
  (.seq (.region [⟨(some 6), .mv (.t 0), none, []⟩, ⟨(some 7), .mv (.t 0), none, []⟩, ⟨(some 8), .mkFunc (.func 320) [(.t 7)] [], none, []⟩, ⟨(some 9), .call (.fn 274) [(.t 6), (.c (.i .u8 2)), (.t 8)], none, []⟩, ⟨(some 10), .build [(.i .u8 0), (.s []), .nilsl, .nilsl] [(0, 1, (.c (.i .u8 15))), (1, 1, (.t 9))], none, []⟩, ⟨(some 3), .alloc (.ag [(.i .u8 0), (.s []), .nilsl, .nilsl]), none, []⟩, ⟨none, .store (some 4) (.t 3) (.t 10), none, []⟩]) 
  (.seq 
  (.seq (.region [⟨(some 11), .mv (.t 0), none, []⟩, ⟨(some 12), .call (.fn 228) [(.t 11), (.c (.s [91]))], none, []⟩]) (.cond (.t 12) 
  (.seq (.region [⟨(some 13), .mv (.t 0), none, []⟩, ⟨(some 14), .mv (.t 0), none, []⟩, ⟨(some 15), .mkFunc (.func 322) [(.t 14)] [], none, []⟩, ⟨(some 16), .call (.fn 274) [(.t 13), (.c (.i .u8 2)), (.t 15)], none, []⟩, ⟨(some 17), .call (.fn 321) [(.t 16)], none, []⟩, ⟨(some 4), .alloc (.ag [(.b false), (.s []), .nilsl]), none, []⟩, ⟨none, .store (some 3) (.t 4) (.t 17), none, []⟩]) 
  (.seq (.region [⟨(some 18), .mv (.t 0), none, []⟩, ⟨(some 19), .call (.fn 297) [(.t 18), (.c (.s [47]))], none, []⟩]) 
  (.seq (.region [⟨(some 20), .mv (.t 0), none, []⟩, ⟨(some 21), .call (.fn 274) [(.t 20), (.c (.i .u8 1)), (.c (.f (.func 148) [] []))], none, []⟩, ⟨(some 22), .call (.fn 321) [(.t 21)], none, []⟩, ⟨(some 5), .alloc (.ag [(.b false), (.s []), .nilsl]), none, []⟩, ⟨none, .store (some 3) (.t 5) (.t 22), none, []⟩]) 
  (.seq (.region [⟨(some 23), .mv (.t 0), none, []⟩, ⟨(some 24), .call (.fn 297) [(.t 23), (.c (.s [93]))], none, []⟩]) (.draw [⟨(some 25), .load (some 3) (.t 5), none, [4, 6]⟩, ⟨(some 26), .load (some 3) (.t 4), none, [4, 6]⟩, ⟨(some 27), .buildSlice (some 3) 2 [(.b false), (.s []), .nilsl] [(0, (.t 25)), (1, (.t 26))], none, []⟩, ⟨(some 28), .fieldAddr 0 none (.t 3), none, []⟩, ⟨none, .store none (.t 28) (.c (.i .u8 16)), none, []⟩, ⟨(some 29), .fieldAddr 2 none (.t 3), none, []⟩, ⟨none, .store none (.t 29) (.t 27), none, []⟩]))))) .skip)) 
  (.seq (.region [⟨(some 30), .load (some 4) (.t 3), none, []⟩, ⟨none, .store (some 4) (.t 2) (.t 30), none, []⟩]) .ret)))))⟩
def c306 : AFunc := ⟨4, 53, [], (some 
  (.seq (.region [⟨(some 10), .mv (.t 1), none, []⟩, ⟨(some 11), .bin .add (.t 10) (.c (.i .i64 1)), none, []⟩, ⟨(some 8), .mv (.t 11), none, []⟩]) (.block 0 (.loop 
  (.seq 
  (.seq (.region [⟨(some 12), .mv (.t 8), none, []⟩, ⟨(some 13), .mv (.t 2), none, []⟩, ⟨(some 14), .bin .lss (.t 12) (.t 13), none, []⟩]) (.cond (.t 14) .skip (.exit 0))) 
  (.seq (.block 1 
  (.seq (.region [⟨(some 17), .mv (.t 8), none, []⟩, ⟨(some 9), .mv (.t 17), none, []⟩]) (.block 2 (.loop 
  (.seq 
  (.seq (.draw [⟨(some 18), .mv (.t 9), none, []⟩, ⟨(some 19), .mv (.t 1), none, []⟩, ⟨(some 20), .bin .gtr (.t 18) (.t 19), none, []⟩, ⟨(some 21), .mv (.t 20), none, []⟩, ⟨(some 22), .mv (.t 3), (some (21, true)), []⟩, ⟨(some 23), .mv (.t 0), (some (21, true)), []⟩, ⟨(some 24), .mv (.t 9), (some (21, true)), []⟩, ⟨(some 25), .idxSl (some 2) (.t 23) (.t 24), (some (21, true)), []⟩, ⟨(some 26), .load (some 2) (.t 25), (some (21, true)), []⟩, ⟨(some 27), .mv (.t 0), (some (21, true)), []⟩, ⟨(some 28), .mv (.t 9), (some (21, true)), []⟩, ⟨(some 29), .bin .sub (.t 28) (.c (.i .i64 1)), (some (21, true)), []⟩, ⟨(some 30), .idxSl (some 2) (.t 27) (.t 29), (some (21, true)), []⟩, ⟨(some 31), .load (some 2) (.t 30), (some (21, true)), []⟩, ⟨(some 32), .call (.val (.t 22)) [(.t 26), (.t 31)], (some (21, true)), []⟩, ⟨(some 33), .bin .lss (.t 32) (.c (.i .i64 0)), (some (21, true)), []⟩, ⟨(some 34), .pick (.t 21) (.t 33) (.c (.b false)), none, []⟩]) (.cond (.t 34) .skip (.exit 2))) 
  (.seq (.block 3 (.draw [⟨(some 37), .mv (.t 0), none, []⟩, ⟨(some 38), .mv (.t 9), none, []⟩, ⟨(some 39), .mv (.t 0), none, []⟩, ⟨(some 40), .mv (.t 9), none, []⟩, ⟨(some 41), .bin .sub (.t 40) (.c (.i .i64 1)), none, []⟩, ⟨(some 42), .mv (.t 0), none, []⟩, ⟨(some 43), .mv (.t 9), none, []⟩, ⟨(some 44), .bin .sub (.t 43) (.c (.i .i64 1)), none, []⟩, ⟨(some 45), .idxSl (some 2) (.t 42) (.t 44), none, []⟩, ⟨(some 46), .load (some 2) (.t 45), none, []⟩, ⟨(some 47), .mv (.t 0), none, []⟩, ⟨(some 48), .mv (.t 9), none, []⟩, ⟨(some 49), .idxSl (some 2) (.t 47) (.t 48), none, []⟩, ⟨(some 50), .load (some 2) (.t 49), none, []⟩, ⟨(some 51), .idxSl (some 2) (.t 37) (.t 38), none, []⟩, ⟨none, .store (some 2) (.t 51) (.t 46), none, []⟩, ⟨(some 52), .idxSl (some 2) (.t 39) (.t 41), none, []⟩, ⟨none, .store (some 2) (.t 52) (.t 50), none, []⟩])) (.region [⟨(some 35), .mv (.t 9), none, []⟩, ⟨(some 36), .bin .sub (.t 35) (.c (.i .i64 1)), none, []⟩, ⟨(some 9), .mv (.t 36), none, []⟩]))))))) (.region [⟨(some 15), .mv (.t 8), none, []⟩, ⟨(some 16), .bin .add (.t 15) (.c (.i .i64 1)), none, []⟩, ⟨(some 8), .mv (.t 16), none, []⟩])))))))⟩
def c314 : AFunc := ⟨1, 17, [(2, none)], (some 
  (.seq (.region [⟨(some 2), .mv (.c (.b false)), none, []⟩]) 
  (.seq (.region [⟨(some 3), .mv (.t 0), none, []⟩, ⟨(some 4), .bin .geq (.t 3) (.c (.i .u8 97)), none, []⟩, ⟨(some 5), .mv (.t 4), none, []⟩, ⟨(some 6), .mv (.t 0), (some (5, true)), []⟩, ⟨(some 7), .bin .leq (.t 6) (.c (.i .u8 122)), (some (5, true)), []⟩, ⟨(some 8), .pick (.t 5) (.t 7) (.c (.b false)), none, []⟩, ⟨(some 9), .mv (.t 8), none, []⟩, ⟨(some 10), .mv (.t 0), (some (9, false)), []⟩, ⟨(some 11), .bin .geq (.t 10) (.c (.i .u8 65)), (some (9, false)), []⟩, ⟨(some 12), .mv (.t 11), (some (9, false)), []⟩, ⟨(some 13), .mv (.t 0), (some (12, true)), []⟩, ⟨(some 14), .bin .leq (.t 13) (.c (.i .u8 90)), (some (12, true)), []⟩, ⟨(some 15), .pick (.t 12) (.t 14) (.c (.b false)), (some (9, false)), []⟩, ⟨(some 16), .pick (.t 9) (.c (.b true)) (.t 15), none, []⟩, ⟨(some 2), .mv (.t 16), none, []⟩]) .ret)))⟩
end Go.Lyc.T
