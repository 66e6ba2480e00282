/-
  The code of functions of the program, as the abstract executor reads it. No conditions: definitions and closed facts.
-/
import Derived.Test.YtknkjkicpohpkaaGreatDoorCodes0
noncomputable section
namespace Go.Lyc.T
open Go.Lyc
set_option maxRecDepth 100000
def c223 : AFunc := ⟨4, 134, [], (some 
  (.seq (.region [o 8 (.mv (.c (.b true)))]) 
  (.seq (.region [o 9 (.mv (.c (.b true)))]) (.block 0 (.loop (.block 1 
  (.seq (.region [m 19 2, m 20 1, o 21 (.bin .sub (.t 19) (.t 20)), m 10 21]) 
  (.seq 
  (.seq (.region [m 22 10, o 23 (.bin .leq (.t 22) (.c (.i .i64 12)))]) (.cond (.t 23) 
  (.seq (.region [m 24 0, m 25 1, m 26 2, o 27 (.call (.fn 285) [(.t 24), (.t 25), (.t 26)])]) .ret) .skip)) 
  (.seq 
  (.seq (.region [m 28 3, o 29 (.bin .eql (.t 28) (.c (.i .i64 0)))]) (.cond (.t 29) 
  (.seq (.region [m 30 0, m 31 1, m 32 2, o 33 (.call (.fn 286) [(.t 30), (.t 31), (.t 32)])]) .ret) .skip)) 
  (.seq 
  (.seq (.region [m 34 8, o 35 (.not (.t 34))]) (.cond (.t 35) 
  (.seq (.region [m 36 0, m 37 1, m 38 2, o 39 (.call (.fn 287) [(.t 36), (.t 37), (.t 38)])]) (.region [m 40 3, o 41 (.bin .sub (.t 40) (.c (.i .i64 1))), m 3 41])) .skip)) 
  (.seq (.region [m 43 0, m 44 1, m 45 2, o 46 (.call (.fn 288) [(.t 43), (.t 44), (.t 45)]), m 42 46, o 47 (.extract (.t 42) 0), o 48 (.extract (.t 42) 1), m 11 47, m 12 48]) 
  (.seq 
  (.seq (.region [m 49 12, o 50 (.bin .eql (.t 49) (.c (.i .i64 2)))]) (.cond (.t 50) 
  (.seq (.region [m 51 0, m 52 1, m 53 2, o 54 (.call (.fn 289) [(.t 51), (.t 52), (.t 53)])]) 
  (.seq (.region [m 55 2, o 56 (.bin .sub (.t 55) (.c (.i .i64 1))), m 57 11, m 58 1, o 59 (.bin .sub (.t 57) (.t 58)), o 60 (.bin .sub (.t 56) (.t 59)), m 11 60]) (.region [o 12 (.mv (.c (.i .i64 1)))]))) .skip)) 
  (.seq 
  (.seq (.region [m 61 8, m 62 61, ⟨(some 63), .mv (.t 9), (some (62, true)), []⟩, o 64 (.pick (.t 62) (.t 63) (.c (.b false))), m 65 64, ⟨(some 66), .mv (.t 12), (some (65, true)), []⟩, ⟨(some 67), .bin .eql (.t 66) (.c (.i .i64 1)), (some (65, true)), []⟩, o 68 (.pick (.t 65) (.t 67) (.c (.b false)))]) (.cond (.t 68) 
  (.seq (.region [m 69 0, m 70 1, m 71 2, o 72 (.call (.fn 290) [(.t 69), (.t 70), (.t 71)])]) (.cond (.t 72) .ret .skip)) .skip)) 
  (.seq 
  (.seq (.draw [m 73 1, o 74 (.bin .gtr (.t 73) (.c (.i .i64 0))), m 75 74, ⟨(some 76), .mv (.t 0), (some (75, true)), []⟩, ⟨(some 77), .mv (.t 1), (some (75, true)), []⟩, ⟨(some 78), .bin .sub (.t 77) (.c (.i .i64 1)), (some (75, true)), []⟩, ⟨(some 79), .idxSl none (.t 76) (.t 78), (some (75, true)), []⟩, ⟨(some 80), .load none (.t 79), (some (75, true)), []⟩, ⟨(some 81), .mv (.t 0), (some (75, true)), []⟩, ⟨(some 82), .mv (.t 11), (some (75, true)), []⟩, ⟨(some 83), .idxSl none (.t 81) (.t 82), (some (75, true)), []⟩, ⟨(some 84), .load none (.t 83), (some (75, true)), []⟩, ⟨(some 85), .call (.fn 291) [(.t 80), (.t 84)], (some (75, true)), []⟩, ⟨(some 86), .not (.t 85), (some (75, true)), []⟩, o 87 (.pick (.t 75) (.t 86) (.c (.b false)))]) (.cond (.t 87) 
  (.seq (.region [m 88 0, m 89 1, m 90 2, m 91 11, o 92 (.call (.fn 292) [(.t 88), (.t 89), (.t 90), (.t 91)]), m 13 92]) 
  (.seq (.region [m 93 13, m 1 93]) (.exit 1))) .skip)) 
  (.seq (.region [m 95 0, m 96 1, m 97 2, m 98 11, o 99 (.call (.fn 293) [(.t 95), (.t 96), (.t 97), (.t 98)]), m 94 99, o 100 (.extract (.t 94) 0), o 101 (.extract (.t 94) 1), m 14 100, m 15 101]) 
  (.seq (.region [m 102 15, m 9 102]) 
  (.seq (.region [m 103 14, m 104 1, o 105 (.bin .sub (.t 103) (.t 104)), m 106 2, m 107 14, o 108 (.bin .sub (.t 106) (.t 107)), m 16 105, m 17 108]) 
  (.seq (.region [m 109 10, o 110 (.bin .quo (.t 109) (.c (.i .i64 8))), m 18 110]) 
  (.seq (.region [m 111 16, m 112 17, o 113 (.bin .lss (.t 111) (.t 112))]) (.cond (.t 113) 
  (.seq (.region [m 114 16, m 115 18, o 116 (.bin .geq (.t 114) (.t 115)), m 8 116]) 
  (.seq (.region [m 117 0, m 118 1, m 119 14, m 120 3, o 121 (.call (.fn 223) [(.t 117), (.t 118), (.t 119), (.t 120)])]) (.region [m 122 14, o 123 (.bin .add (.t 122) (.c (.i .i64 1))), m 1 123]))) 
  (.seq (.region [m 124 17, m 125 18, o 126 (.bin .geq (.t 124) (.t 125)), m 8 126]) 
  (.seq (.region [m 127 0, m 128 14, o 129 (.bin .add (.t 128) (.c (.i .i64 1))), m 130 2, m 131 3, o 132 (.call (.fn 223) [(.t 127), (.t 129), (.t 130), (.t 131)])]) (.region [m 133 14, m 2 133])))))))))))))))))))))))⟩
def c224 : AFunc := ⟨1, 8, [(2, none)], (some 
  (.seq (.region [o 2 (.mv (.c (.i .i64 0)))]) 
  (.seq (.cond (.c (.b false)) 
  (.seq (.region [m 3 0, o 4 (.conv .u32 (.t 3)), o 5 (.call (.fn 294) [(.t 4)]), m 2 5]) .ret) .skip) 
  (.seq (.region [m 6 0, o 7 (.call (.fn 295) [(.t 6)]), m 2 7]) .ret))))⟩
def c225 : AFunc := ⟨2, 54, [(4, none)], (some 
  (.seq (.region [o 4 (.mv (.c (.s [])))]) 
  (.seq 
  (.seq (.region [m 10 1, o 11 (.bin .eql (.t 10) (.c (.i .i64 10)))]) (.cond (.t 11) 
  (.seq 
  (.seq (.region [m 12 0, o 13 (.bin .leq (.c (.i .i64 0)) (.t 12)), m 14 13, ⟨(some 15), .mv (.t 0), (some (14, true)), []⟩, ⟨(some 16), .bin .lss (.t 15) (.c (.i .i64 100)), (some (14, true)), []⟩, o 17 (.pick (.t 14) (.t 16) (.c (.b false)))]) (.cond (.t 17) 
  (.seq (.region [m 18 0, o 19 (.call (.fn 296) [(.t 18)]), m 4 19]) .ret) .skip)) 
  (.seq (.region [o 5 (.alloc (.ag [(.i .u8 0), (.i .u8 0), (.i .u8 0), (.i .u8 0), (.i .u8 0), (.i .u8 0), (.i .u8 0), (.i .u8 0), (.i .u8 0), (.i .u8 0), (.i .u8 0), (.i .u8 0), (.i .u8 0), (.i .u8 0), (.i .u8 0), (.i .u8 0), (.i .u8 0), (.i .u8 0), (.i .u8 0), (.i .u8 0), (.i .u8 0), (.i .u8 0), (.i .u8 0), (.i .u8 0)]))]) 
  (.seq (.region [m 20 0, o 21 (.conv .u64 (.t 20)), m 6 21]) 
  (.seq 
  (.seq (.region [m 22 0, o 23 (.bin .lss (.t 22) (.c (.i .i64 0)))]) (.cond (.t 23) (.region [m 24 6, o 25 (.neg (.t 24)), m 6 25]) .skip)) 
  (.seq (.region [m 26 6, o 27 (.call (.fn 297) [(.t 26)]), m 7 27]) 
  (.seq (.region [m 28 7, o 29 (.bin .add (.c (.i .i64 1)) (.t 28)), o 30 (.sliceArr 24 none (.t 5) (some (.c (.i .i64 1))) (some (.t 29))), m 31 6, o 32 (.call (.fn 298) [(.t 30), (.t 31)])]) 
  (.seq 
  (.seq (.region [m 33 0, o 34 (.bin .lss (.t 33) (.c (.i .i64 0)))]) (.cond (.t 34) 
  (.seq (.region [o 35 (.idxArr 24 none (.t 5) (.c (.i .i64 0))), u (.store none (.t 35) (.c (.i .u8 45)))]) 
  (.seq (.region [m 36 7, o 37 (.bin .add (.c (.i .i64 1)) (.t 36)), o 38 (.sliceArr 24 none (.t 5) none (some (.t 37))), o 39 (.bytesToStr (.t 38)), m 4 39]) .ret)) .skip)) 
  (.seq (.region [m 40 7, o 41 (.bin .add (.c (.i .i64 1)) (.t 40)), o 42 (.sliceArr 24 none (.t 5) (some (.c (.i .i64 1))) (some (.t 41))), o 43 (.bytesToStr (.t 42)), m 4 43]) .ret)))))))) .skip)) 
  (.seq (.region [m 45 0, o 46 (.conv .u64 (.t 45)), m 47 1, m 48 0, o 49 (.bin .lss (.t 48) (.c (.i .i64 0))), o 50 (.call (.fn 299) [(.c .nilsl), (.t 46), (.t 47), (.t 49), (.c (.b false))]), m 44 50, o 51 (.extract (.t 44) 0), o 52 (.extract (.t 44) 1), m 8 51, m 9 52]) 
  (.seq (.region [m 53 9, m 4 53]) .ret)))))⟩
def c226 : AFunc := ⟨2, 13, [(4, none)], (some 
  (.seq (.region [o 2 (.box (.t 0)), o 4 (.mv (.c .nilsl))]) 
  (.seq 
  (.seq (.region [m 6 1]) (.block 0 (.rangeFunc (.t 6) [7] (.region [m 5 7]) (.block 1 (.region [o 8 (.load none (.t 2)), m 9 5, o 10 (.buildSlice none 1 [(.s [])] [(0, (.t 9))]), o 11 (.append none 16 (.t 8) (.t 10)), u (.store none (.t 2) (.t 11))]))))) 
  (.seq (.region [o 12 (.load none (.t 2)), m 4 12]) .ret))))⟩
def c227 : AFunc := ⟨4, 134, [], (some 
  (.seq (.region [o 8 (.mv (.c (.b true)))]) 
  (.seq (.region [o 9 (.mv (.c (.b true)))]) (.block 0 (.loop (.block 1 
  (.seq (.region [m 19 2, m 20 1, o 21 (.bin .sub (.t 19) (.t 20)), m 10 21]) 
  (.seq 
  (.seq (.region [m 22 10, o 23 (.bin .leq (.t 22) (.c (.i .i64 12)))]) (.cond (.t 23) 
  (.seq (.region [m 24 0, m 25 1, m 26 2, o 27 (.call (.fn 300) [(.t 24), (.t 25), (.t 26)])]) .ret) .skip)) 
  (.seq 
  (.seq (.region [m 28 3, o 29 (.bin .eql (.t 28) (.c (.i .i64 0)))]) (.cond (.t 29) 
  (.seq (.region [m 30 0, m 31 1, m 32 2, o 33 (.call (.fn 301) [(.t 30), (.t 31), (.t 32)])]) .ret) .skip)) 
  (.seq 
  (.seq (.region [m 34 8, o 35 (.not (.t 34))]) (.cond (.t 35) 
  (.seq (.region [m 36 0, m 37 1, m 38 2, o 39 (.call (.fn 302) [(.t 36), (.t 37), (.t 38)])]) (.region [m 40 3, o 41 (.bin .sub (.t 40) (.c (.i .i64 1))), m 3 41])) .skip)) 
  (.seq (.region [m 43 0, m 44 1, m 45 2, o 46 (.call (.fn 303) [(.t 43), (.t 44), (.t 45)]), m 42 46, o 47 (.extract (.t 42) 0), o 48 (.extract (.t 42) 1), m 11 47, m 12 48]) 
  (.seq 
  (.seq (.region [m 49 12, o 50 (.bin .eql (.t 49) (.c (.i .i64 2)))]) (.cond (.t 50) 
  (.seq (.region [m 51 0, m 52 1, m 53 2, o 54 (.call (.fn 304) [(.t 51), (.t 52), (.t 53)])]) 
  (.seq (.region [m 55 2, o 56 (.bin .sub (.t 55) (.c (.i .i64 1))), m 57 11, m 58 1, o 59 (.bin .sub (.t 57) (.t 58)), o 60 (.bin .sub (.t 56) (.t 59)), m 11 60]) (.region [o 12 (.mv (.c (.i .i64 1)))]))) .skip)) 
  (.seq 
  (.seq (.region [m 61 8, m 62 61, ⟨(some 63), .mv (.t 9), (some (62, true)), []⟩, o 64 (.pick (.t 62) (.t 63) (.c (.b false))), m 65 64, ⟨(some 66), .mv (.t 12), (some (65, true)), []⟩, ⟨(some 67), .bin .eql (.t 66) (.c (.i .i64 1)), (some (65, true)), []⟩, o 68 (.pick (.t 65) (.t 67) (.c (.b false)))]) (.cond (.t 68) 
  (.seq (.region [m 69 0, m 70 1, m 71 2, o 72 (.call (.fn 305) [(.t 69), (.t 70), (.t 71)])]) (.cond (.t 72) .ret .skip)) .skip)) 
  (.seq 
  (.seq (.draw [m 73 1, o 74 (.bin .gtr (.t 73) (.c (.i .i64 0))), m 75 74, ⟨(some 76), .mv (.t 0), (some (75, true)), []⟩, ⟨(some 77), .mv (.t 1), (some (75, true)), []⟩, ⟨(some 78), .bin .sub (.t 77) (.c (.i .i64 1)), (some (75, true)), []⟩, ⟨(some 79), .idxSl none (.t 76) (.t 78), (some (75, true)), []⟩, ⟨(some 80), .load none (.t 79), (some (75, true)), []⟩, ⟨(some 81), .mv (.t 0), (some (75, true)), []⟩, ⟨(some 82), .mv (.t 11), (some (75, true)), []⟩, ⟨(some 83), .idxSl none (.t 81) (.t 82), (some (75, true)), []⟩, ⟨(some 84), .load none (.t 83), (some (75, true)), []⟩, ⟨(some 85), .call (.fn 306) [(.t 80), (.t 84)], (some (75, true)), []⟩, ⟨(some 86), .not (.t 85), (some (75, true)), []⟩, o 87 (.pick (.t 75) (.t 86) (.c (.b false)))]) (.cond (.t 87) 
  (.seq (.region [m 88 0, m 89 1, m 90 2, m 91 11, o 92 (.call (.fn 307) [(.t 88), (.t 89), (.t 90), (.t 91)]), m 13 92]) 
  (.seq (.region [m 93 13, m 1 93]) (.exit 1))) .skip)) 
  (.seq (.region [m 95 0, m 96 1, m 97 2, m 98 11, o 99 (.call (.fn 308) [(.t 95), (.t 96), (.t 97), (.t 98)]), m 94 99, o 100 (.extract (.t 94) 0), o 101 (.extract (.t 94) 1), m 14 100, m 15 101]) 
  (.seq (.region [m 102 15, m 9 102]) 
  (.seq (.region [m 103 14, m 104 1, o 105 (.bin .sub (.t 103) (.t 104)), m 106 2, m 107 14, o 108 (.bin .sub (.t 106) (.t 107)), m 16 105, m 17 108]) 
  (.seq (.region [m 109 10, o 110 (.bin .quo (.t 109) (.c (.i .i64 8))), m 18 110]) 
  (.seq (.region [m 111 16, m 112 17, o 113 (.bin .lss (.t 111) (.t 112))]) (.cond (.t 113) 
  (.seq (.region [m 114 16, m 115 18, o 116 (.bin .geq (.t 114) (.t 115)), m 8 116]) 
  (.seq (.region [m 117 0, m 118 1, m 119 14, m 120 3, o 121 (.call (.fn 227) [(.t 117), (.t 118), (.t 119), (.t 120)])]) (.region [m 122 14, o 123 (.bin .add (.t 122) (.c (.i .i64 1))), m 1 123]))) 
  (.seq (.region [m 124 17, m 125 18, o 126 (.bin .geq (.t 124) (.t 125)), m 8 126]) 
  (.seq (.region [m 127 0, m 128 14, o 129 (.bin .add (.t 128) (.c (.i .i64 1))), m 130 2, m 131 3, o 132 (.call (.fn 227) [(.t 127), (.t 129), (.t 130), (.t 131)])]) (.region [m 133 14, m 2 133])))))))))))))))))))))))⟩
def c231 : AFunc := ⟨2, 9, [(4, none)], (some (.seq (.region [o 4 (.mv (.c (.b false)))]) (.seq (.region [m 5 0, m 6 1, o 7 (.call (.fn 309) [(.t 5), (.t 6)]), o 8 (.bin .geq (.t 7) (.c (.i .i64 0))), m 4 8]) .ret)))⟩
def c232 : AFunc := ⟨2, 8, [(3, none)], (some 
  (.seq (.region [o 2 (.box (.t 0)), o 3 (.mv (.c (.b false)))]) 
  (.seq (.region [o 4 (.fieldAddr 0 none (.t 2)), o 5 (.load none (.t 4)), o 6 (.load none (.t 1)), o 7 (.bin .eql (.t 5) (.t 6)), m 3 7]) .ret)))⟩
def c233 : AFunc := ⟨2, 34, [(4, (some none))], (some 
  (.seq (.region [o 2 (.box (.t 0)), o 3 (.box (.t 1)), o 4 (.alloc (.i .i64 0))]) 
  (.seq 
  (.seq (.region [o 9 (.load (some 4) (.t 3)), o 10 (.load (some 4) (.t 3)), o 11 (.call (.fn 197) [(.t 9), (.t 10)])]) (.block 0 (.rangeFunc (.t 11) [12] (.region [o 5 (.alloc (.ag [(.i .u8 0), (.s []), .nilsl, .nilsl, (.i .u8 0), (.s []), .nilsl, .nilsl, .nilsl])), u (.store (some 9) (.t 5) (.t 12))]) (.block 1 
  (.seq (.region [o 13 (.load none (.t 2)), o 14 (.load (some 9) (.t 5)), o 15 (.call (.fn 310) [(.t 13), (.t 14)])]) (.cond (.t 15) 
  (.seq (.region [u (.store none (.t 4) (.c (.i .i64 6)))]) .ret) .skip)))))) 
  (.seq 
  (.seq (.region [o 16 (.load (some 4) (.t 3)), o 17 (.load (some 4) (.t 3)), o 18 (.call (.fn 197) [(.t 16), (.t 17)])]) (.block 2 (.rangeFunc (.t 18) [19] (.region [o 6 (.alloc (.ag [(.i .u8 0), (.s []), .nilsl, .nilsl, (.i .u8 0), (.s []), .nilsl, .nilsl, .nilsl])), u (.store (some 9) (.t 6) (.t 19))]) (.block 3 
  (.seq (.region [o 20 (.load none (.t 2)), o 21 (.load (some 9) (.t 6)), o 22 (.call (.fn 311) [(.t 20), (.t 21)])]) (.cond (.t 22) 
  (.seq (.region [u (.store none (.t 4) (.c (.i .i64 72)))]) .ret) .skip)))))) 
  (.seq (.region [o 7 (.alloc (.i .i64 0)), u (.store none (.t 7) (.c (.i .i64 0)))]) 
  (.seq 
  (.seq (.region [o 23 (.load (some 4) (.t 3)), o 24 (.load (some 4) (.t 3)), o 25 (.call (.fn 197) [(.t 23), (.t 24)])]) (.block 4 (.rangeFunc (.t 25) [26] (.region [o 8 (.alloc (.ag [(.i .u8 0), (.s []), .nilsl, .nilsl, (.i .u8 0), (.s []), .nilsl, .nilsl, .nilsl])), u (.store (some 9) (.t 8) (.t 26))]) (.block 5 
  (.seq (.draw [⟨(some 27), .load none (.t 7), none, [5]⟩, o 28 (.load none (.t 2)), o 29 (.load (some 9) (.t 8)), o 30 (.call (.fn 312) [(.t 28), (.t 29)]), o 31 (.bin .add (.t 27) (.t 30)), u (.store none (.t 7) (.t 31))]) 
  (.seq (.region [o 32 (.load none (.t 7)), o 33 (.bin .gtr (.t 32) (.c (.i .i64 400)))]) (.cond (.t 33) 
  (.seq (.region [u (.store none (.t 4) (.c (.i .i64 3)))]) .ret) .skip))))))) 
  (.seq (.region [u (.store none (.t 4) (.c (.i .i64 0)))]) .ret)))))))⟩
def c234 : AFunc := ⟨3, 136, [(6, (some (some 4)))], (some 
  (.seq (.region [o 4 (.box (.t 1)), o 6 (.alloc (.ag [(.i .u8 0), (.s []), .nilsl, .nilsl]))]) 
  (.seq 
  (.seq (.region [o 17 (.fieldAddr 0 none (.t 4)), o 18 (.load none (.t 17))]) (.block 0 
  (.seq (.region [o 20 (.bin .eql (.t 18) (.c (.i .u8 15))), m 19 20]) (.cond (.t 19) 
  (.seq (.draw [m 21 0, o 22 (.nilCheck (.t 21)), o 23 (.fieldAddr 0 none (.t 22)), o 24 (.load none (.t 23)), o 25 (.fieldAddr 1 none (.t 4)), o 26 (.load none (.t 25)), o 27 (.lookup (.inl 1) (.t 24) (.t 26) (.ag [(.i .u8 0), (.s []), .nilsl, .nilsl]) false), o 28 (.call (.fn 37) [(.t 27)]), u (.store (some 4) (.t 6) (.t 28))]) .ret) 
  (.seq (.region [o 30 (.bin .eql (.t 18) (.c (.i .u8 16))), m 29 30]) (.cond (.t 29) 
  (.seq (.region [o 32 (.load (some 4) (.t 4)), o 33 (.call (.fn 272) [(.t 32)]), m 31 33, o 34 (.extract (.t 31) 0), o 35 (.extract (.t 31) 1), m 7 34, m 8 35]) 
  (.seq (.draw [m 36 0, o 37 (.nilCheck (.t 36)), o 38 (.fieldAddr 0 none (.t 37)), ⟨(some 39), .load none (.t 38), none, [8]⟩, o 40 (.fieldAddr 1 none (.t 4)), ⟨(some 41), .load none (.t 40), none, [8]⟩, ⟨(some 42), .lookup (.inl 1) (.t 39) (.t 41) (.ag [(.i .u8 0), (.s []), .nilsl, .nilsl]) false, none, [8]⟩, o 9 (.alloc (.ag [(.i .u8 0), (.s []), .nilsl, .nilsl])), u (.store (some 4) (.t 9) (.t 42))]) 
  (.seq 
  (.seq (.region [o 43 (.load (some 4) (.t 9)), m 44 7, o 45 (.call (.fn 273) [(.t 43), (.t 44)]), o 46 (.bin .eql (.t 45) (.c (.i .i64 0)))]) (.cond (.t 46) 
  (.seq (.region [o 47 (.load (some 4) (.t 9)), o 48 (.call (.fn 37) [(.t 47)]), u (.store (some 4) (.t 6) (.t 48))]) .ret) .skip)) 
  (.seq (.draw [o 49 (.load (some 4) (.t 9)), m 50 7, m 51 0, o 52 (.nilCheck (.t 51)), o 53 (.fieldAddr 1 none (.t 52)), o 54 (.load none (.t 53)), m 55 8, o 56 (.lookup (.inl 1) (.t 54) (.t 55) (.ag [(.b false), (.s []), .nilsl]) false), o 57 (.call (.fn 277) [(.t 49), (.t 50), (.t 56)]), u (.store (some 4) (.t 6) (.t 57))]) .ret)))) .skip)))))) 
  (.seq (.region [o 58 (.fieldAddr 0 none (.t 4)), o 59 (.load none (.t 58)), o 60 (.fieldAddr 1 none (.t 4)), o 61 (.load none (.t 60)), o 62 (.build [(.i .u8 0), (.s []), .nilsl, .nilsl] [(0, 1, (.t 59)), (1, 1, (.t 61))]), o 10 (.alloc (.ag [(.i .u8 0), (.s []), .nilsl, .nilsl])), u (.store (some 4) (.t 10) (.t 62))]) 
  (.seq 
  (.seq (.region [o 63 (.fieldAddr 2 none (.t 4)), o 64 (.load none (.t 63)), o 65 (.len 1 (.t 64)), o 66 (.mv (.c (.i .i64 0)))]) (.block 1 (.loop 
  (.seq (.region [o 67 (.bin .lss (.t 66) (.t 65))]) 
  (.seq (.cond (.t 67) .skip (.exit 1)) 
  (.seq (.block 2 
  (.seq (.region [o 68 (.idxSl (some 3) (.t 64) (.t 66)), o 69 (.load (some 3) (.t 68)), o 12 (.alloc (.ag [(.b false), (.s []), .nilsl])), u (.store (some 3) (.t 12) (.t 69))]) (.draw [o 70 (.fieldAddr 2 none (.t 10)), ⟨(some 71), .load none (.t 70), none, [7]⟩, m 72 0, o 73 (.load (some 3) (.t 12)), m 74 2, o 75 (.call (.fn 313) [(.t 72), (.t 73), (.t 74)]), o 76 (.buildSlice (some 3) 1 [(.b false), (.s []), .nilsl] [(0, (.t 75))]), o 77 (.append (some 3) 48 (.t 71) (.t 76)), o 78 (.fieldAddr 2 none (.t 10)), u (.store none (.t 78) (.t 77))]))) (.region [o 79 (.bin .add (.t 66) (.c (.i .i64 1))), m 66 79]))))))) 
  (.seq 
  (.seq (.region [o 80 (.load (some 4) (.t 4)), o 81 (.call (.fn 269) [(.t 80)])]) (.cond (.t 81) 
  (.seq (.draw [m 82 0, o 83 (.fieldAddr 3 none (.t 4)), ⟨(some 84), .load none (.t 83), none, [15, 16]⟩, o 85 (.idxSl (some 4) (.t 84) (.c (.i .i64 0))), ⟨(some 86), .load (some 4) (.t 85), none, [15, 16]⟩, m 87 2, m 88 2, ⟨(some 89), .len 1 (.t 88), none, [15]⟩, m 90 2, ⟨(some 91), .len 1 (.t 90), none, [15]⟩, o 92 (.sliceSl none (.t 87) none (some (.t 89)) (some (.t 91))), o 93 (.fieldAddr 1 none (.t 4)), ⟨(some 94), .load none (.t 93), none, [15]⟩, o 95 (.buildSlice none 1 [(.s [])] [(0, (.t 94))]), o 13 (.alloc (.ag [(.i .u8 0), (.s []), .nilsl, .nilsl])), o 96 (.append none 16 (.t 92) (.t 95)), o 97 (.call (.fn 234) [(.t 82), (.t 86), (.t 96)]), u (.store (some 4) (.t 13) (.t 97))]) 
  (.seq 
  (.seq (.region [o 98 (.load (some 4) (.t 13)), o 99 (.call (.fn 76) [(.t 98)]), m 14 99]) 
  (.seq (.region [m 100 14, o 101 (.fieldAddr 1 none (.t 4)), o 102 (.load none (.t 101)), o 103 (.call (.fn 284) [(.t 100), (.t 102)])]) (.cond (.t 103) (.region [m 104 14, o 105 (.call (.fn 42) [(.t 104)]), o 106 (.fieldAddr 1 none (.t 10)), u (.store none (.t 106) (.t 105))]) .skip))) 
  (.seq (.draw [⟨(some 107), .load (some 4) (.t 13), none, [6, 7]⟩, o 108 (.fieldAddr 1 none (.t 4)), o 109 (.load none (.t 108)), o 111 (.fieldAddr 1 none (.t 10)), ⟨(some 112), .load none (.t 111), none, [6]⟩, o 110 (.call (.fn 314) [(.t 109)]), o 113 (.call (.fn 315) [(.t 112)]), o 114 (.call (.fn 277) [(.t 107), (.t 110), (.t 113)]), o 115 (.buildSlice (some 4) 1 [(.i .u8 0), (.s []), .nilsl, .nilsl] [(0, (.t 114))]), o 116 (.fieldAddr 3 none (.t 10)), u (.store none (.t 116) (.t 115))]) 
  (.seq (.region [o 117 (.load (some 4) (.t 10)), u (.store (some 4) (.t 6) (.t 117))]) .ret)))) .skip)) 
  (.seq 
  (.seq (.region [o 118 (.fieldAddr 3 none (.t 4)), o 119 (.load none (.t 118)), o 120 (.len 1 (.t 119)), o 121 (.mv (.c (.i .i64 0)))]) (.block 3 (.loop 
  (.seq (.region [o 122 (.bin .lss (.t 121) (.t 120))]) 
  (.seq (.cond (.t 122) .skip (.exit 3)) 
  (.seq (.block 4 
  (.seq (.region [o 123 (.idxSl (some 4) (.t 119) (.t 121)), o 124 (.load (some 4) (.t 123)), o 16 (.alloc (.ag [(.i .u8 0), (.s []), .nilsl, .nilsl])), u (.store (some 4) (.t 16) (.t 124))]) (.draw [o 125 (.fieldAddr 3 none (.t 10)), ⟨(some 126), .load none (.t 125), none, [7]⟩, m 127 0, o 128 (.load (some 4) (.t 16)), m 129 2, o 130 (.call (.fn 234) [(.t 127), (.t 128), (.t 129)]), o 131 (.buildSlice (some 4) 1 [(.i .u8 0), (.s []), .nilsl, .nilsl] [(0, (.t 130))]), o 132 (.append (some 4) 72 (.t 126) (.t 131)), o 133 (.fieldAddr 3 none (.t 10)), u (.store none (.t 133) (.t 132))]))) (.region [o 134 (.bin .add (.t 121) (.c (.i .i64 1))), m 121 134]))))))) 
  (.seq (.region [o 135 (.load (some 4) (.t 10)), u (.store (some 4) (.t 6) (.t 135))]) .ret))))))))⟩
def c235 : AFunc := ⟨1, 8, [(2, none)], (some 
  (.seq (.region [o 2 (.mv (.c .nilsl))]) 
  (.seq 
  (.seq (.region [m 3 0, o 4 (.eqNil 3 false (.t 3) (.c .nilsl))]) (.cond (.t 4) 
  (.seq (.region [o 2 (.mv (.c .nilsl))]) .ret) .skip)) 
  (.seq (.region [o 5 (.buildSlice (some 4) 0 [(.s []), (.b false), (.s []), .nilsl] []), m 6 0, o 7 (.append (some 4) 64 (.t 5) (.t 6)), m 2 7]) .ret))))⟩
def c236 : AFunc := ⟨2, 14, [], (some 
  (.seq (.region [m 5 0, o 6 (.len 1 (.t 5)), m 4 6]) (.region [m 7 0, m 8 4, m 9 4, o 10 (.conv .u64 (.t 9)), o 11 (.call (.fn 224) [(.t 10)]), m 12 1, o 13 (.call (.fn 316) [(.t 7), (.c (.i .i64 0)), (.t 8), (.t 11), (.t 12)])])))⟩
def c238 : AFunc := ⟨2, 8, [(4, none)], (some (.seq (.region [o 4 (.mv (.c (.i .i64 0)))]) (.seq (.region [m 5 0, m 6 1, o 7 (.call (.fn 317) [(.t 5), (.t 6)]), m 4 7]) .ret)))⟩
def c239 : AFunc := ⟨2, 71, [], (some (.block 0 (.loop (.block 1 
  (.seq (.block 2 (.loop 
  (.seq 
  (.seq (.draw [o 5 (.load none (.t 1)), o 6 (.nilCheck (.t 5)), o 7 (.fieldAddr 0 (some 1) (.t 6)), o 8 (.fieldAddr 0 none (.t 7)), o 9 (.load none (.t 8)), o 10 (.load none (.t 1)), o 11 (.nilCheck (.t 10)), o 12 (.fieldAddr 1 none (.t 11)), o 13 (.load none (.t 12)), o 14 (.len 0 (.t 13)), o 15 (.bin .lss (.t 9) (.t 14)), m 16 15, ⟨(some 17), .load none (.t 1), (some (16, true)), []⟩, ⟨(some 18), .nilCheck (.t 17), (some (16, true)), []⟩, ⟨(some 19), .fieldAddr 1 none (.t 18), (some (16, true)), []⟩, ⟨(some 20), .load none (.t 19), (some (16, true)), []⟩, ⟨(some 21), .load none (.t 1), (some (16, true)), []⟩, ⟨(some 22), .nilCheck (.t 21), (some (16, true)), []⟩, ⟨(some 23), .fieldAddr 0 (some 1) (.t 22), (some (16, true)), []⟩, ⟨(some 24), .fieldAddr 0 none (.t 23), (some (16, true)), []⟩, ⟨(some 25), .load none (.t 24), (some (16, true)), []⟩, ⟨(some 26), .indexStr (.t 20) (.t 25), (some (16, true)), []⟩, ⟨(some 27), .call (.fn 240) [(.t 26)], (some (16, true)), []⟩, o 28 (.pick (.t 16) (.t 27) (.c (.b false)))]) (.cond (.t 28) .skip (.exit 2))) (.block 3 (.region [o 29 (.load none (.t 1)), o 30 (.nilCheck (.t 29)), o 31 (.fieldAddr 0 (some 1) (.t 30)), o 32 (.fieldAddr 0 none (.t 31)), o 33 (.load none (.t 32)), o 34 (.bin .add (.t 33) (.c (.i .i64 1))), o 35 (.nilCheck (.t 29)), o 36 (.fieldAddr 0 (some 1) (.t 35)), o 37 (.fieldAddr 0 none (.t 36)), u (.store none (.t 37) (.t 34))]))))) 
  (.seq 
  (.seq (.draw [o 38 (.load none (.t 1)), o 39 (.nilCheck (.t 38)), o 40 (.fieldAddr 0 (some 1) (.t 39)), o 41 (.fieldAddr 0 none (.t 40)), o 42 (.load none (.t 41)), o 43 (.load none (.t 1)), o 44 (.nilCheck (.t 43)), o 45 (.fieldAddr 1 none (.t 44)), o 46 (.load none (.t 45)), o 47 (.len 0 (.t 46)), o 48 (.bin .eql (.t 42) (.t 47))]) (.cond (.t 48) 
  (.seq (.region [m 49 0, o 50 (.load none (.t 1)), o 51 (.nilCheck (.t 50)), o 52 (.fieldAddr 0 (some 1) (.t 51)), o 53 (.fieldAddr 0 none (.t 52)), o 54 (.load none (.t 53)), o 55 (.build [(.i .u8 0), (.s []), (.i .i64 0)] [(0, 1, (.c (.i .u8 5))), (2, 1, (.t 54))]), o 56 (.call (.val (.t 49)) [(.t 55), (.c (.i .i64 0))])]) .ret) .skip)) 
  (.seq (.region [o 58 (.load none (.t 1)), o 59 (.call (.fn 241) [(.t 58)]), m 57 59, o 60 (.extract (.t 57) 0), o 61 (.extract (.t 57) 1), o 3 (.alloc (.ag [(.i .u8 0), (.s []), (.i .i64 0)])), u (.store (some 3) (.t 3) (.t 60)), m 4 61]) 
  (.seq (.region [m 62 0, o 63 (.load (some 3) (.t 3)), m 64 4, o 65 (.call (.val (.t 62)) [(.t 63), (.t 64)]), o 66 (.not (.t 65)), m 67 66, ⟨(some 68), .mv (.t 4), (some (67, false)), []⟩, ⟨(some 69), .bin .neq (.t 68) (.c (.i .i64 0)), (some (67, false)), []⟩, o 70 (.pick (.t 67) (.c (.b true)) (.t 69))]) (.cond (.t 70) .ret .skip)))))))))⟩
def c240 : AFunc := ⟨1, 17, [(2, none)], (some 
  (.seq (.region [o 2 (.mv (.c (.b false)))]) 
  (.seq (.region [m 3 0, o 4 (.bin .eql (.t 3) (.c (.i .u8 32))), m 5 4, ⟨(some 6), .mv (.t 0), (some (5, false)), []⟩, ⟨(some 7), .bin .eql (.t 6) (.c (.i .u8 9)), (some (5, false)), []⟩, o 8 (.pick (.t 5) (.c (.b true)) (.t 7)), m 9 8, ⟨(some 10), .mv (.t 0), (some (9, false)), []⟩, ⟨(some 11), .bin .eql (.t 10) (.c (.i .u8 10)), (some (9, false)), []⟩, o 12 (.pick (.t 9) (.c (.b true)) (.t 11)), m 13 12, ⟨(some 14), .mv (.t 0), (some (13, false)), []⟩, ⟨(some 15), .bin .eql (.t 14) (.c (.i .u8 13)), (some (13, false)), []⟩, o 16 (.pick (.t 13) (.c (.b true)) (.t 15)), m 2 16]) .ret)))⟩
def c241 : AFunc := ⟨1, 64, [(2, (some (some 3))), (3, none)], (some 
  (.seq (.region [o 2 (.alloc (.ag [(.i .u8 0), (.s []), (.i .i64 0)])), o 3 (.mv (.c (.i .i64 0)))]) 
  (.seq 
  (.seq (.region [m 10 0, o 11 (.call (.fn 318) [(.t 10)]), o 12 (.mv (.c (.i .i64 0)))]) (.block 0 (.loop 
  (.seq (.region [o 13 (.bin .lss (.t 12) (.c (.i .i64 3)))]) 
  (.seq (.cond (.t 13) .skip (.exit 0)) 
  (.seq (.block 1 
  (.seq (.region [o 14 (.indexAgg 3 (some 2) (.t 11) (.t 12)), o 5 (.alloc (.ag [.nf, .nf])), u (.store (some 2) (.t 5) (.t 14))]) 
  (.seq 
  (.seq (.draw [o 15 (.fieldAddr 0 none (.t 5)), o 16 (.load none (.t 15)), m 17 0, o 18 (.nilCheck (.t 17)), o 19 (.fieldAddr 1 none (.t 18)), o 20 (.load none (.t 19)), m 21 0, o 22 (.nilCheck (.t 21)), o 23 (.fieldAddr 0 (some 1) (.t 22)), o 24 (.fieldAddr 0 none (.t 23)), o 25 (.load none (.t 24)), o 26 (.indexStr (.t 20) (.t 25)), o 27 (.call (.val (.t 16)) [(.t 26)]), o 28 (.not (.t 27))]) (.cond (.t 28) (.exit 1) .skip)) 
  (.seq (.region [o 30 (.fieldAddr 1 none (.t 5)), o 31 (.load none (.t 30)), o 32 (.call (.val (.t 31)) []), m 29 32, o 33 (.extract (.t 29) 0), o 34 (.extract (.t 29) 1), o 35 (.extract (.t 29) 2), m 6 33, m 7 34, m 8 35]) 
  (.seq (.region [m 36 6, m 37 7, m 38 0, o 39 (.nilCheck (.t 38)), o 40 (.fieldAddr 0 (some 1) (.t 39)), o 41 (.fieldAddr 0 none (.t 40)), o 42 (.load none (.t 41)), o 43 (.build [(.i .u8 0), (.s []), (.i .i64 0)] [(0, 1, (.t 36)), (1, 1, (.t 37)), (2, 1, (.t 42))]), o 9 (.alloc (.ag [(.i .u8 0), (.s []), (.i .i64 0)])), u (.store (some 3) (.t 9) (.t 43))]) 
  (.seq (.region [m 44 0, o 45 (.nilCheck (.t 44)), o 46 (.fieldAddr 0 (some 1) (.t 45)), o 47 (.fieldAddr 0 none (.t 46)), o 48 (.load none (.t 47)), m 49 7, o 50 (.len 0 (.t 49)), o 51 (.bin .add (.t 48) (.t 50)), o 52 (.nilCheck (.t 44)), o 53 (.fieldAddr 0 (some 1) (.t 52)), o 54 (.fieldAddr 0 none (.t 53)), u (.store none (.t 54) (.t 51))]) 
  (.seq (.region [o 55 (.load (some 3) (.t 9)), m 56 8, u (.store (some 3) (.t 2) (.t 55)), m 3 56]) .ret))))))) (.region [o 57 (.bin .add (.t 12) (.c (.i .i64 1))), m 12 57]))))))) 
  (.seq (.region [m 58 0, o 59 (.nilCheck (.t 58)), o 60 (.fieldAddr 0 (some 1) (.t 59)), o 61 (.fieldAddr 0 none (.t 60)), o 62 (.load none (.t 61)), o 63 (.build [(.i .u8 0), (.s []), (.i .i64 0)] [(2, 1, (.t 62))]), u (.store (some 3) (.t 2) (.t 63)), o 3 (.mv (.c (.i .i64 40)))]) .ret))))⟩
def c242 : AFunc := ⟨1, 9, [], (some 
  (.seq (.region [m 2 0, o 3 (.nilCheck (.t 2)), o 4 (.fieldAddr 2 none (.t 3)), o 5 (.load none (.t 4)), o 6 (.bin .gtr (.t 5) (.c (.i .i64 120)))]) (.cond (.t 6) (.region [m 7 0, o 8 (.call (.fn 121) [(.t 7), (.c (.i .i64 51))])]) .skip)))⟩
def c243 : AFunc := ⟨0, 3, [(0, none)], (some 
  (.seq (.region [o 0 (.mv (.c (.m none)))]) 
  (.seq (.region [o 1 (.mkMap), u (.mapUpd (.inl 1) (.t 1) (.c (.s [126])) (.c (.i .u8 3))), u (.mapUpd (.inl 1) (.t 1) (.c (.s [91, 93])) (.c (.i .u8 10))), u (.mapUpd (.inl 1) (.t 1) (.c (.s [60, 62])) (.c (.i .u8 11))), u (.mapUpd (.inl 1) (.t 1) (.c (.s [110, 101, 120, 116])) (.c (.i .u8 12))), u (.mapUpd (.inl 1) (.t 1) (.c (.s [97, 108, 119, 97, 121, 115])) (.c (.i .u8 13))), u (.mapUpd (.inl 1) (.t 1) (.c (.s [97, 108, 108])) (.c (.i .u8 8))), u (.mapUpd (.inl 1) (.t 1) (.c (.s [115, 111, 109, 101])) (.c (.i .u8 9))), m 2 1, m 0 2]) .ret)))⟩
def c244 : AFunc := ⟨1, 46, [(2, (some (some 4)))], (some 
  (.seq (.region [o 2 (.alloc (.ag [(.i .u8 0), (.s []), .nilsl, .nilsl]))]) 
  (.seq 
  (.seq (.region [m 6 0, o 7 (.call (.fn 120) [(.t 6)]), o 3 (.alloc (.ag [(.i .u8 0), (.s []), (.i .i64 0)])), u (.store (some 3) (.t 3) (.t 7))]) (.block 0 
  (.seq (.region [m 9 0, o 10 (.call (.fn 168) [(.t 9), (.c (.s [40]))]), m 8 10]) (.cond (.t 8) 
  (.seq (.region [m 11 0, o 12 (.nilCheck (.t 11)), o 13 (.fieldAddr 2 none (.t 12)), o 14 (.load none (.t 13)), o 15 (.bin .add (.t 14) (.c (.i .i64 1))), o 16 (.nilCheck (.t 11)), o 17 (.fieldAddr 2 none (.t 16)), u (.store none (.t 17) (.t 15))]) 
  (.seq (.region [m 18 0, o 19 (.call (.fn 81) [(.t 18)]), o 4 (.alloc (.ag [(.i .u8 0), (.s []), .nilsl, .nilsl])), u (.store (some 4) (.t 4) (.t 19))]) 
  (.seq (.region [m 20 0, o 21 (.nilCheck (.t 20)), o 22 (.fieldAddr 2 none (.t 21)), o 23 (.load none (.t 22)), o 24 (.bin .sub (.t 23) (.c (.i .i64 1))), o 25 (.nilCheck (.t 20)), o 26 (.fieldAddr 2 none (.t 25)), u (.store none (.t 26) (.t 24))]) 
  (.seq (.region [m 27 0, o 28 (.call (.fn 319) [(.t 27), (.c (.s [41]))])]) 
  (.seq (.region [o 29 (.load (some 4) (.t 4)), u (.store (some 4) (.t 2) (.t 29))]) .ret))))) 
  (.seq (.region [m 31 0, o 32 (.call (.fn 168) [(.t 31), (.c (.s [102, 97, 108, 115, 101]))]), m 30 32]) (.cond (.t 30) 
  (.seq (.region [o 33 (.build [(.i .u8 0), (.s []), .nilsl, .nilsl] [(0, 1, (.c (.i .u8 2)))]), u (.store (some 4) (.t 2) (.t 33))]) .ret) 
  (.seq (.region [o 35 (.fieldAddr 0 none (.t 3)), o 36 (.load none (.t 35)), o 37 (.bin .eql (.t 36) (.c (.i .u8 2))), m 34 37]) (.cond (.t 34) 
  (.seq (.region [m 38 0, o 39 (.call (.fn 320) [(.t 38)]), u (.store (some 4) (.t 2) (.t 39))]) .ret) .skip)))))))) 
  (.seq (.region [m 40 0, o 41 (.call (.fn 245) [(.t 40), (.c (.i .u8 1)), (.c (.f (.func 135) [] []))]), m 5 41]) 
  (.seq (.region [m 42 5, m 43 0, o 44 (.call (.fn 321) [(.t 43)]), o 45 (.build [(.i .u8 0), (.s []), .nilsl, .nilsl] [(0, 1, (.c (.i .u8 1))), (1, 1, (.t 42)), (2, 1, (.t 44))]), u (.store (some 4) (.t 2) (.t 45))]) .ret)))))⟩
def c245 : AFunc := ⟨3, 32, [(6, none)], (some 
  (.seq (.region [o 6 (.mv (.c (.s [])))]) 
  (.seq (.region [m 8 0, o 9 (.call (.fn 120) [(.t 8)]), o 7 (.alloc (.ag [(.i .u8 0), (.s []), (.i .i64 0)])), u (.store (some 3) (.t 7) (.t 9))]) 
  (.seq 
  (.seq (.region [o 10 (.fieldAddr 0 none (.t 7)), o 11 (.load none (.t 10)), m 12 1, o 13 (.bin .neq (.t 11) (.t 12)), m 14 13, ⟨(some 15), .mv (.t 2), (some (14, false)), []⟩, ⟨(some 16), .fieldAddr 1 none (.t 7), (some (14, false)), []⟩, ⟨(some 17), .load none (.t 16), (some (14, false)), []⟩, ⟨(some 18), .call (.val (.t 15)) [(.t 17)], (some (14, false)), []⟩, ⟨(some 19), .not (.t 18), (some (14, false)), []⟩, o 20 (.pick (.t 14) (.c (.b true)) (.t 19))]) (.cond (.t 20) (.region [m 21 0, o 22 (.call (.fn 121) [(.t 21), (.c (.i .i64 50))])]) .skip)) 
  (.seq (.region [m 23 0, o 24 (.nilCheck (.t 23)), o 25 (.fieldAddr 1 none (.t 24)), o 26 (.load none (.t 25)), o 27 (.bin .add (.t 26) (.c (.i .i64 1))), o 28 (.nilCheck (.t 23)), o 29 (.fieldAddr 1 none (.t 28)), u (.store none (.t 29) (.t 27))]) 
  (.seq (.region [o 30 (.fieldAddr 1 none (.t 7)), o 31 (.load none (.t 30)), m 6 31]) .ret))))))⟩
def c246 : AFunc := ⟨1, 15, [(2, none)], (some 
  (.seq (.region [o 2 (.mv (.c (.b false)))]) 
  (.seq (.region [m 3 0, o 4 (.len 0 (.t 3)), o 5 (.bin .leq (.t 4) (.c (.i .i64 16))), m 6 5, ⟨(some 7), .mv (.t 0), (some (6, true)), []⟩, ⟨(some 8), .call (.fn 322) [(.t 7), (.c (.s [63]))], (some (6, true)), []⟩, o 9 (.pick (.t 6) (.t 8) (.c (.b false))), m 10 9, ⟨(some 11), .mv (.t 0), (some (10, true)), []⟩, ⟨(some 12), .sliceStr (.t 11) (some (.c (.i .i64 1))) none, (some (10, true)), []⟩, ⟨(some 13), .call (.fn 135) [(.t 12)], (some (10, true)), []⟩, o 14 (.pick (.t 10) (.t 13) (.c (.b false))), m 2 14]) .ret)))⟩
def c252 : AFunc := ⟨1, 9, [(2, none)], (some 
  (.seq (.region [o 2 (.mv (.c (.b false)))]) 
  (.seq (.region [m 3 0, o 4 (.call (.fn 246) [(.t 3)]), m 5 4, ⟨(some 6), .mv (.t 0), (some (5, false)), []⟩, ⟨(some 7), .call (.fn 247) [(.t 6)], (some (5, false)), []⟩, o 8 (.pick (.t 5) (.c (.b true)) (.t 7)), m 2 8]) .ret)))⟩
def c253 : AFunc := ⟨2, 27, [], (some 
  (.seq (.region [m 6 0, o 7 (.len 1 (.t 6)), o 8 (.mv (.c (.i .i64 0)))]) (.block 0 (.loop 
  (.seq (.region [o 9 (.bin .lss (.t 8) (.t 7))]) 
  (.seq (.cond (.t 9) .skip (.exit 0)) 
  (.seq (.block 1 
  (.seq (.region [o 10 (.idxSl (some 3) (.t 6) (.t 8)), o 11 (.load (some 3) (.t 10)), o 5 (.alloc (.ag [(.b false), (.s []), .nilsl])), u (.store (some 3) (.t 5) (.t 11))]) 
  (.seq 
  (.seq (.region [o 12 (.fieldAddr 0 none (.t 5)), o 13 (.load none (.t 12)), m 14 13, ⟨(some 15), .fieldAddr 1 none (.t 5), (some (14, true)), []⟩, ⟨(some 16), .load none (.t 15), (some (14, true)), []⟩, ⟨(some 17), .call (.fn 252) [(.t 16)], (some (14, true)), []⟩, o 18 (.pick (.t 14) (.t 17) (.c (.b false)))]) (.cond (.t 18) (.region [m 19 1, o 20 (.fieldAddr 1 none (.t 5)), o 21 (.load none (.t 20)), u (.mapUpd (.inl 1) (.t 19) (.t 21) (.c (.b true)))]) .skip)) (.region [o 22 (.fieldAddr 2 none (.t 5)), o 23 (.load none (.t 22)), m 24 1, o 25 (.call (.fn 253) [(.t 23), (.t 24)])])))) (.region [o 26 (.bin .add (.t 8) (.c (.i .i64 1))), m 8 26]))))))))⟩
def c254 : AFunc := ⟨3, 37, [(4, none)], (some 
  (.seq (.region [o 4 (.mv (.c (.b false)))]) 
  (.seq 
  (.seq (.draw [m 6 0, o 7 (.len 0 (.t 6)), o 8 (.bin .lss (.t 7) (.c (.i .i64 1))), m 9 8, ⟨(some 10), .mv (.t 0), (some (9, false)), []⟩, ⟨(some 11), .len 0 (.t 10), (some (9, false)), []⟩, ⟨(some 12), .bin .gtr (.t 11) (.c (.i .i64 16)), (some (9, false)), []⟩, o 13 (.pick (.t 9) (.c (.b true)) (.t 12)), m 14 13, ⟨(some 15), .mv (.t 0), (some (14, false)), []⟩, ⟨(some 16), .call (.fn 255) [(.t 15)], (some (14, false)), []⟩, o 17 (.pick (.t 14) (.c (.b true)) (.t 16)), m 18 17, ⟨(some 19), .load none (.t 1), (some (18, false)), []⟩, ⟨(some 20), .mv (.t 0), (some (18, false)), []⟩, ⟨(some 21), .indexStr (.t 20) (.c (.i .i64 0)), (some (18, false)), []⟩, ⟨(some 22), .call (.val (.t 19)) [(.t 21)], (some (18, false)), []⟩, ⟨(some 23), .not (.t 22), (some (18, false)), []⟩, o 24 (.pick (.t 18) (.c (.b true)) (.t 23))]) (.cond (.t 24) 
  (.seq (.region [o 4 (.mv (.c (.b false)))]) .ret) .skip)) 
  (.seq 
  (.seq (.region [o 5 (.mv (.c (.i .i64 1)))]) (.block 0 (.loop 
  (.seq 
  (.seq (.region [m 25 5, m 26 0, o 27 (.len 0 (.t 26)), o 28 (.bin .lss (.t 25) (.t 27))]) (.cond (.t 28) .skip (.exit 0))) 
  (.seq (.block 1 
  (.seq (.draw [o 31 (.load none (.t 2)), m 32 0, m 33 5, o 34 (.indexStr (.t 32) (.t 33)), o 35 (.call (.val (.t 31)) [(.t 34)]), o 36 (.not (.t 35))]) (.cond (.t 36) 
  (.seq (.region [o 4 (.mv (.c (.b false)))]) .ret) .skip))) (.region [m 29 5, o 30 (.bin .add (.t 29) (.c (.i .i64 1))), m 5 30])))))) 
  (.seq (.region [o 4 (.mv (.c (.b true)))]) .ret)))))⟩
def c255 : AFunc := ⟨1, 11, [(2, none)], (some 
  (.seq (.region [o 2 (.mv (.c (.b false)))]) 
  (.seq 
  (.seq (.region [m 3 0]) (.block 0 
  (.seq 
  (.seq (.region [o 5 (.bin .eql (.t 3) (.c (.s [97, 108, 108]))), m 4 5]) (.cond (.t 4) .skip 
  (.seq (.region [o 6 (.bin .eql (.t 3) (.c (.s [115, 111, 109, 101]))), m 4 6]) (.cond (.t 4) .skip 
  (.seq (.region [o 7 (.bin .eql (.t 3) (.c (.s [102, 97, 108, 115, 101]))), m 4 7]) (.cond (.t 4) .skip 
  (.seq (.region [o 8 (.bin .eql (.t 3) (.c (.s [110, 101, 120, 116]))), m 4 8]) (.cond (.t 4) .skip 
  (.seq (.region [o 9 (.bin .eql (.t 3) (.c (.s [97, 108, 119, 97, 121, 115]))), m 4 9]) (.cond (.t 4) .skip (.region [o 10 (.bin .eql (.t 3) (.c (.s [117, 110, 116, 105, 108]))), m 4 10]))))))))))) (.cond (.t 4) 
  (.seq (.region [o 2 (.mv (.c (.b true)))]) .ret) .skip)))) 
  (.seq (.region [o 2 (.mv (.c (.b false)))]) .ret))))⟩
def c258 : AFunc := ⟨1, 6, [(2, none)], (some (.seq (.region [o 2 (.mv (.c .nilsl))]) (.seq (.region [m 3 0, o 4 (.call (.fn 325) [(.t 3)]), o 5 (.call (.fn 324) [(.t 4), (.c (.f (.func 326) [] []))]), m 2 5]) .ret)))⟩
def c259 : AFunc := ⟨2, 25, [(4, none)], (some 
  (.seq (.region [o 4 (.mv (.c (.b false)))]) 
  (.seq 
  (.seq (.region [m 7 0, o 8 (.len 1 (.t 7)), o 9 (.mv (.c (.i .i64 0)))]) (.block 0 (.loop 
  (.seq (.region [o 10 (.bin .lss (.t 9) (.t 8))]) 
  (.seq (.cond (.t 10) .skip (.exit 0)) 
  (.seq (.block 1 
  (.seq (.region [o 11 (.idxSl (some 3) (.t 7) (.t 9)), o 12 (.load (some 3) (.t 11)), o 6 (.alloc (.ag [(.b false), (.s []), .nilsl])), u (.store (some 3) (.t 6) (.t 12))]) 
  (.seq (.region [m 13 1, o 14 (.load (some 3) (.t 6)), o 15 (.call (.val (.t 13)) [(.t 14)]), o 16 (.not (.t 15)), m 17 16, ⟨(some 18), .fieldAddr 2 none (.t 6), (some (17, false)), []⟩, ⟨(some 19), .load none (.t 18), (some (17, false)), []⟩, ⟨(some 20), .mv (.t 1), (some (17, false)), []⟩, ⟨(some 21), .call (.fn 259) [(.t 19), (.t 20)], (some (17, false)), []⟩, ⟨(some 22), .not (.t 21), (some (17, false)), []⟩, o 23 (.pick (.t 17) (.c (.b true)) (.t 22))]) (.cond (.t 23) 
  (.seq (.region [o 4 (.mv (.c (.b false)))]) .ret) .skip)))) (.region [o 24 (.bin .add (.t 9) (.c (.i .i64 1))), m 9 24]))))))) 
  (.seq (.region [o 4 (.mv (.c (.b true)))]) .ret))))⟩
def c261 : AFunc := ⟨1, 10, [(2, none)], (some 
  (.seq (.region [o 2 (.mv (.c (.b false)))]) 
  (.seq (.region [m 3 0, o 4 (.call (.fn 252) [(.t 3)]), m 5 4, ⟨(some 6), .mv (.t 0), (some (5, true)), []⟩, ⟨(some 7), .sliceStr (.t 6) (some (.c (.i .i64 1))) none, (some (5, true)), []⟩, ⟨(some 8), .call (.fn 135) [(.t 7)], (some (5, true)), []⟩, o 9 (.pick (.t 5) (.t 8) (.c (.b false))), m 2 9]) .ret)))⟩
def c262 : AFunc := ⟨1, 44, [(2, (some (some 4)))], (some 
  (.seq (.region [o 1 (.box (.t 0)), o 2 (.alloc (.ag [(.i .u8 0), (.s []), .nilsl, .nilsl]))]) 
  (.seq (.region [o 8 (.fieldAddr 0 none (.t 1)), o 9 (.load none (.t 8)), o 10 (.fieldAddr 1 none (.t 1)), o 11 (.load none (.t 10)), o 12 (.build [(.i .u8 0), (.s []), .nilsl, .nilsl] [(0, 1, (.t 9)), (1, 1, (.t 11))]), o 3 (.alloc (.ag [(.i .u8 0), (.s []), .nilsl, .nilsl])), u (.store (some 4) (.t 3) (.t 12))]) 
  (.seq 
  (.seq (.region [o 13 (.fieldAddr 2 none (.t 1)), o 14 (.load none (.t 13)), o 15 (.len 1 (.t 14)), o 16 (.mv (.c (.i .i64 0)))]) (.block 0 (.loop 
  (.seq (.region [o 17 (.bin .lss (.t 16) (.t 15))]) 
  (.seq (.cond (.t 17) .skip (.exit 0)) 
  (.seq (.block 1 
  (.seq (.region [o 18 (.idxSl (some 3) (.t 14) (.t 16)), o 19 (.load (some 3) (.t 18)), o 5 (.alloc (.ag [(.b false), (.s []), .nilsl])), u (.store (some 3) (.t 5) (.t 19))]) (.draw [o 20 (.fieldAddr 2 none (.t 3)), ⟨(some 21), .load none (.t 20), none, [5]⟩, o 22 (.load (some 3) (.t 5)), o 23 (.call (.fn 265) [(.t 22)]), o 24 (.buildSlice (some 3) 1 [(.b false), (.s []), .nilsl] [(0, (.t 23))]), o 25 (.append (some 3) 48 (.t 21) (.t 24)), o 26 (.fieldAddr 2 none (.t 3)), u (.store none (.t 26) (.t 25))]))) (.region [o 27 (.bin .add (.t 16) (.c (.i .i64 1))), m 16 27]))))))) 
  (.seq 
  (.seq (.region [o 28 (.fieldAddr 3 none (.t 1)), o 29 (.load none (.t 28)), o 30 (.len 1 (.t 29)), o 31 (.mv (.c (.i .i64 0)))]) (.block 2 (.loop 
  (.seq (.region [o 32 (.bin .lss (.t 31) (.t 30))]) 
  (.seq (.cond (.t 32) .skip (.exit 2)) 
  (.seq (.block 3 
  (.seq (.region [o 33 (.idxSl (some 4) (.t 29) (.t 31)), o 34 (.load (some 4) (.t 33)), o 7 (.alloc (.ag [(.i .u8 0), (.s []), .nilsl, .nilsl])), u (.store (some 4) (.t 7) (.t 34))]) (.draw [o 35 (.fieldAddr 3 none (.t 3)), ⟨(some 36), .load none (.t 35), none, [5]⟩, o 37 (.load (some 4) (.t 7)), o 38 (.call (.fn 262) [(.t 37)]), o 39 (.buildSlice (some 4) 1 [(.i .u8 0), (.s []), .nilsl, .nilsl] [(0, (.t 38))]), o 40 (.append (some 4) 72 (.t 36) (.t 39)), o 41 (.fieldAddr 3 none (.t 3)), u (.store none (.t 41) (.t 40))]))) (.region [o 42 (.bin .add (.t 31) (.c (.i .i64 1))), m 31 42]))))))) 
  (.seq (.region [o 43 (.load (some 4) (.t 3)), u (.store (some 4) (.t 2) (.t 43))]) .ret))))))⟩
def c266 : AFunc := ⟨1, 20, [(2, none)], (some 
  (.seq (.region [o 2 (.mv (.c (.b false)))]) 
  (.seq 
  (.seq (.region [o 3 (.mv (.c (.i .i64 1)))]) (.block 0 (.loop 
  (.seq 
  (.seq (.region [m 4 3, m 5 0, o 6 (.len 1 (.t 5)), o 7 (.bin .lss (.t 4) (.t 6))]) (.cond (.t 7) .skip (.exit 0))) 
  (.seq (.block 1 
  (.seq (.draw [m 10 0, m 11 3, o 12 (.bin .sub (.t 11) (.c (.i .i64 1))), o 13 (.idxSl none (.t 10) (.t 12)), o 14 (.load none (.t 13)), m 15 0, m 16 3, o 17 (.idxSl none (.t 15) (.t 16)), o 18 (.load none (.t 17)), o 19 (.bin .geq (.t 14) (.t 18))]) (.cond (.t 19) 
  (.seq (.region [o 2 (.mv (.c (.b false)))]) .ret) .skip))) (.region [m 8 3, o 9 (.bin .add (.t 8) (.c (.i .i64 1))), m 3 9])))))) 
  (.seq (.region [o 2 (.mv (.c (.b true)))]) .ret))))⟩
def c267 : AFunc := ⟨3, 83, [(6, (some (some 4))), (7, none)], (some 
  (.seq (.region [o 3 (.box (.t 0)), o 4 (.box (.t 1)), o 6 (.alloc (.ag [(.i .u8 0), (.s []), .nilsl, .nilsl])), o 7 (.mv (.c (.b false)))]) 
  (.seq (.region [o 17 (.fieldAddr 0 none (.t 4)), o 18 (.load none (.t 17)), o 19 (.fieldAddr 1 none (.t 4)), o 20 (.load none (.t 19)), o 21 (.build [(.i .u8 0), (.s []), .nilsl, .nilsl] [(0, 1, (.t 18)), (1, 1, (.t 20))]), o 8 (.alloc (.ag [(.i .u8 0), (.s []), .nilsl, .nilsl])), u (.store (some 4) (.t 8) (.t 21))]) 
  (.seq 
  (.seq (.region [o 22 (.fieldAddr 2 none (.t 4)), o 23 (.load none (.t 22)), o 24 (.len 1 (.t 23)), o 25 (.mv (.c (.i .i64 0)))]) (.block 0 (.loop 
  (.seq (.region [o 26 (.bin .lss (.t 25) (.t 24))]) 
  (.seq (.cond (.t 26) .skip (.exit 0)) 
  (.seq (.block 1 
  (.seq (.region [o 27 (.idxSl (some 3) (.t 23) (.t 25)), o 28 (.load (some 3) (.t 27)), o 10 (.alloc (.ag [(.b false), (.s []), .nilsl])), u (.store (some 3) (.t 10) (.t 28))]) 
  (.seq (.region [o 30 (.load (some 9) (.t 3)), o 31 (.load (some 3) (.t 10)), m 32 2, o 33 (.call (.fn 270) [(.t 30), (.t 31), (.t 32)]), m 29 33, o 34 (.extract (.t 29) 0), o 35 (.extract (.t 29) 1), o 11 (.alloc (.ag [(.b false), (.s []), .nilsl])), u (.store (some 3) (.t 11) (.t 34)), m 12 35]) 
  (.seq 
  (.seq (.region [m 36 12, o 37 (.not (.t 36))]) (.cond (.t 37) 
  (.seq (.region [o 38 (.build [(.i .u8 0), (.s []), .nilsl, .nilsl] []), u (.store (some 4) (.t 6) (.t 38)), o 7 (.mv (.c (.b false)))]) .ret) .skip)) (.region [o 39 (.fieldAddr 2 none (.t 8)), o 40 (.load none (.t 39)), o 41 (.load (some 3) (.t 11)), o 42 (.buildSlice (some 3) 1 [(.b false), (.s []), .nilsl] [(0, (.t 41))]), o 43 (.append (some 3) 48 (.t 40) (.t 42)), o 44 (.fieldAddr 2 none (.t 8)), u (.store none (.t 44) (.t 43))]))))) (.region [o 45 (.bin .add (.t 25) (.c (.i .i64 1))), m 25 45]))))))) 
  (.seq 
  (.seq (.region [o 46 (.load (some 4) (.t 4)), o 47 (.call (.fn 269) [(.t 46)])]) (.cond (.t 47) (.draw [m 48 2, m 49 2, ⟨(some 50), .len 1 (.t 49), none, [9]⟩, m 51 2, ⟨(some 52), .len 1 (.t 51), none, [9]⟩, o 53 (.sliceSl none (.t 48) none (some (.t 50)) (some (.t 52))), o 54 (.fieldAddr 1 none (.t 4)), ⟨(some 55), .load none (.t 54), none, [9]⟩, o 56 (.buildSlice none 1 [(.s [])] [(0, (.t 55))]), o 57 (.append none 16 (.t 53) (.t 56)), m 2 57]) .skip)) 
  (.seq 
  (.seq (.region [o 58 (.fieldAddr 3 none (.t 4)), o 59 (.load none (.t 58)), o 60 (.len 1 (.t 59)), o 61 (.mv (.c (.i .i64 0)))]) (.block 2 (.loop 
  (.seq (.region [o 62 (.bin .lss (.t 61) (.t 60))]) 
  (.seq (.cond (.t 62) .skip (.exit 2)) 
  (.seq (.block 3 
  (.seq (.region [o 63 (.idxSl (some 4) (.t 59) (.t 61)), o 64 (.load (some 4) (.t 63)), o 14 (.alloc (.ag [(.i .u8 0), (.s []), .nilsl, .nilsl])), u (.store (some 4) (.t 14) (.t 64))]) 
  (.seq (.region [o 66 (.load (some 9) (.t 3)), o 67 (.load (some 4) (.t 14)), m 68 2, o 69 (.call (.fn 267) [(.t 66), (.t 67), (.t 68)]), m 65 69, o 70 (.extract (.t 65) 0), o 71 (.extract (.t 65) 1), o 15 (.alloc (.ag [(.i .u8 0), (.s []), .nilsl, .nilsl])), u (.store (some 4) (.t 15) (.t 70)), m 16 71]) 
  (.seq 
  (.seq (.region [m 72 16, o 73 (.not (.t 72))]) (.cond (.t 73) 
  (.seq (.region [o 74 (.build [(.i .u8 0), (.s []), .nilsl, .nilsl] []), u (.store (some 4) (.t 6) (.t 74)), o 7 (.mv (.c (.b false)))]) .ret) .skip)) (.region [o 75 (.fieldAddr 3 none (.t 8)), o 76 (.load none (.t 75)), o 77 (.load (some 4) (.t 15)), o 78 (.buildSlice (some 4) 1 [(.i .u8 0), (.s []), .nilsl, .nilsl] [(0, (.t 77))]), o 79 (.append (some 4) 72 (.t 76) (.t 78)), o 80 (.fieldAddr 3 none (.t 8)), u (.store none (.t 80) (.t 79))]))))) (.region [o 81 (.bin .add (.t 61) (.c (.i .i64 1))), m 61 81]))))))) 
  (.seq (.region [o 82 (.load (some 4) (.t 8)), u (.store (some 4) (.t 6) (.t 82)), o 7 (.mv (.c (.b true)))]) .ret)))))))⟩
def c268 : AFunc := ⟨3, 95, [(6, none)], (some 
  (.seq (.region [o 3 (.box (.t 0)), o 4 (.box (.t 1)), o 6 (.mv (.c (.b false)))]) 
  (.seq 
  (.seq (.region [o 11 (.fieldAddr 0 none (.t 3)), o 12 (.load none (.t 11)), o 13 (.fieldAddr 0 none (.t 4)), o 14 (.load none (.t 13)), o 15 (.bin .neq (.t 12) (.t 14)), m 16 15, ⟨(some 17), .fieldAddr 2 none (.t 3), (some (16, false)), []⟩, ⟨(some 18), .load none (.t 17), (some (16, false)), []⟩, ⟨(some 19), .len 1 (.t 18), (some (16, false)), []⟩, ⟨(some 20), .fieldAddr 2 none (.t 4), (some (16, false)), []⟩, ⟨(some 21), .load none (.t 20), (some (16, false)), []⟩, ⟨(some 22), .len 1 (.t 21), (some (16, false)), []⟩, ⟨(some 23), .bin .neq (.t 19) (.t 22), (some (16, false)), []⟩, o 24 (.pick (.t 16) (.c (.b true)) (.t 23)), m 25 24, ⟨(some 26), .fieldAddr 3 none (.t 3), (some (25, false)), []⟩, ⟨(some 27), .load none (.t 26), (some (25, false)), []⟩, ⟨(some 28), .len 1 (.t 27), (some (25, false)), []⟩, ⟨(some 29), .fieldAddr 3 none (.t 4), (some (25, false)), []⟩, ⟨(some 30), .load none (.t 29), (some (25, false)), []⟩, ⟨(some 31), .len 1 (.t 30), (some (25, false)), []⟩, ⟨(some 32), .bin .neq (.t 28) (.t 31), (some (25, false)), []⟩, o 33 (.pick (.t 25) (.c (.b true)) (.t 32))]) (.cond (.t 33) 
  (.seq (.region [o 6 (.mv (.c (.b false)))]) .ret) .skip)) 
  (.seq 
  (.seq (.region [o 34 (.fieldAddr 1 none (.t 3)), o 35 (.load none (.t 34)), o 36 (.fieldAddr 1 none (.t 4)), o 37 (.load none (.t 36)), o 38 (.bin .neq (.t 35) (.t 37)), m 39 38, ⟨(some 40), .load (some 4) (.t 3), (some (39, true)), []⟩, ⟨(some 41), .call (.fn 269) [(.t 40)], (some (39, true)), []⟩, ⟨(some 42), .not (.t 41), (some (39, true)), []⟩, o 43 (.pick (.t 39) (.t 42) (.c (.b false)))]) (.cond (.t 43) 
  (.seq (.region [o 6 (.mv (.c (.b false)))]) .ret) .skip)) 
  (.seq 
  (.seq (.region [o 44 (.fieldAddr 2 none (.t 3)), o 45 (.load none (.t 44)), o 46 (.len 1 (.t 45)), o 47 (.mv (.c (.i .i64 0)))]) (.block 0 (.loop 
  (.seq (.region [o 48 (.bin .lss (.t 47) (.t 46))]) 
  (.seq (.cond (.t 48) .skip (.exit 0)) 
  (.seq (.block 1 
  (.seq (.region [m 49 47, o 50 (.idxSl (some 3) (.t 45) (.t 47)), o 51 (.load (some 3) (.t 50)), o 8 (.alloc (.ag [(.b false), (.s []), .nilsl])), m 7 49, u (.store (some 3) (.t 8) (.t 51))]) 
  (.seq (.draw [o 52 (.load (some 3) (.t 8)), o 53 (.fieldAddr 2 none (.t 4)), o 54 (.load none (.t 53)), m 55 7, o 56 (.idxSl (some 3) (.t 54) (.t 55)), o 57 (.load (some 3) (.t 56)), m 58 2, o 59 (.call (.fn 329) [(.t 52), (.t 57), (.t 58)]), o 60 (.not (.t 59))]) (.cond (.t 60) 
  (.seq (.region [o 6 (.mv (.c (.b false)))]) .ret) .skip)))) (.region [o 61 (.bin .add (.t 47) (.c (.i .i64 1))), m 47 61]))))))) 
  (.seq 
  (.seq (.region [o 62 (.load (some 4) (.t 3)), o 63 (.call (.fn 269) [(.t 62)])]) (.cond (.t 63) (.draw [m 64 2, m 65 2, ⟨(some 66), .len 1 (.t 65), none, [12]⟩, m 67 2, ⟨(some 68), .len 1 (.t 67), none, [12]⟩, o 69 (.sliceSl (some 2) (.t 64) none (some (.t 66)) (some (.t 68))), o 70 (.fieldAddr 1 none (.t 3)), ⟨(some 71), .load none (.t 70), none, [12]⟩, o 72 (.fieldAddr 1 none (.t 4)), ⟨(some 73), .load none (.t 72), none, [12]⟩, o 74 (.build [(.s []), (.s [])] [(0, 1, (.t 71)), (1, 1, (.t 73))]), o 75 (.buildSlice (some 2) 1 [(.s []), (.s [])] [(0, (.t 74))]), o 76 (.append (some 2) 32 (.t 69) (.t 75)), m 2 76]) .skip)) 
  (.seq 
  (.seq (.region [o 77 (.fieldAddr 3 none (.t 3)), o 78 (.load none (.t 77)), o 79 (.len 1 (.t 78)), o 80 (.mv (.c (.i .i64 0)))]) (.block 2 (.loop 
  (.seq (.region [o 81 (.bin .lss (.t 80) (.t 79))]) 
  (.seq (.cond (.t 81) .skip (.exit 2)) 
  (.seq (.block 3 
  (.seq (.region [m 82 80, o 83 (.idxSl (some 4) (.t 78) (.t 80)), o 84 (.load (some 4) (.t 83)), o 10 (.alloc (.ag [(.i .u8 0), (.s []), .nilsl, .nilsl])), m 9 82, u (.store (some 4) (.t 10) (.t 84))]) 
  (.seq (.draw [o 85 (.load (some 4) (.t 10)), o 86 (.fieldAddr 3 none (.t 4)), o 87 (.load none (.t 86)), m 88 9, o 89 (.idxSl (some 4) (.t 87) (.t 88)), o 90 (.load (some 4) (.t 89)), m 91 2, o 92 (.call (.fn 268) [(.t 85), (.t 90), (.t 91)]), o 93 (.not (.t 92))]) (.cond (.t 93) 
  (.seq (.region [o 6 (.mv (.c (.b false)))]) .ret) .skip)))) (.region [o 94 (.bin .add (.t 80) (.c (.i .i64 1))), m 80 94]))))))) 
  (.seq (.region [o 6 (.mv (.c (.b true)))]) .ret))))))))⟩
def c269 : AFunc := ⟨1, 11, [(2, none)], (some 
  (.seq (.region [o 1 (.box (.t 0)), o 2 (.mv (.c (.b false)))]) 
  (.seq (.region [o 3 (.fieldAddr 0 none (.t 1)), o 4 (.load none (.t 3)), o 5 (.bin .eql (.t 4) (.c (.i .u8 8))), m 6 5, ⟨(some 7), .fieldAddr 0 none (.t 1), (some (6, false)), []⟩, ⟨(some 8), .load none (.t 7), (some (6, false)), []⟩, ⟨(some 9), .bin .eql (.t 8) (.c (.i .u8 9)), (some (6, false)), []⟩, o 10 (.pick (.t 6) (.c (.b true)) (.t 9)), m 2 10]) .ret)))⟩
def c275 : AFunc := ⟨1, 5, [(2, none)], (some 
  (.seq (.region [o 1 (.box (.t 0)), o 2 (.mv (.c (.i .i64 0)))]) 
  (.seq (.region [o 3 (.load (some 4) (.t 1)), o 4 (.call (.fn 336) [(.t 3), (.c (.i .i64 9223372036854775807))]), m 2 4]) .ret)))⟩
def c278 : AFunc := ⟨3, 9, [], (some (.region [o 4 (.load (some 4) (.t 1)), o 5 (.load (some 4) (.t 2)), o 6 (.build [(.i .u8 0), (.s []), .nilsl, .nilsl, (.i .u8 0), (.s []), .nilsl, .nilsl, .nilsl] [(0, 4, (.t 4)), (4, 4, (.t 5)), (8, 1, (.c .nilsl))]), m 7 0, o 8 (.call (.fn 279) [(.t 6), (.t 7)])]))⟩
def c279 : AFunc := ⟨2, 61, [(4, none)], (some 
  (.seq (.region [o 2 (.box (.t 0)), o 4 (.mv (.c (.b false)))]) 
  (.seq 
  (.seq (.region [m 7 1, o 8 (.load (some 9) (.t 2)), o 9 (.call (.val (.t 7)) [(.t 8)]), o 10 (.not (.t 9))]) (.cond (.t 10) 
  (.seq (.region [o 4 (.mv (.c (.b false)))]) .ret) .skip)) 
  (.seq (.region [o 11 (.fieldAddr 8 none (.t 2)), o 12 (.load none (.t 11)), m 5 12]) 
  (.seq 
  (.seq (.region [o 13 (.fieldAddr 0 (some 4) (.t 2)), o 14 (.load (some 4) (.t 13)), o 15 (.call (.fn 269) [(.t 14)])]) (.cond (.t 15) (.draw [m 16 5, m 17 5, ⟨(some 18), .len 1 (.t 17), none, [14]⟩, m 19 5, ⟨(some 20), .len 1 (.t 19), none, [14]⟩, o 21 (.sliceSl (some 2) (.t 16) none (some (.t 18)) (some (.t 20))), o 22 (.fieldAddr 0 (some 4) (.t 2)), o 23 (.fieldAddr 1 none (.t 22)), ⟨(some 24), .load none (.t 23), none, [14]⟩, o 25 (.fieldAddr 4 (some 4) (.t 2)), o 26 (.fieldAddr 1 none (.t 25)), ⟨(some 27), .load none (.t 26), none, [14]⟩, o 28 (.build [(.s []), (.s [])] [(0, 1, (.t 24)), (1, 1, (.t 27))]), o 29 (.buildSlice (some 2) 1 [(.s []), (.s [])] [(0, (.t 28))]), o 30 (.append (some 2) 32 (.t 21) (.t 29)), m 5 30]) .skip)) 
  (.seq 
  (.seq (.region [o 31 (.fieldAddr 0 (some 4) (.t 2)), o 32 (.fieldAddr 3 none (.t 31)), o 33 (.load none (.t 32)), o 34 (.len 1 (.t 33)), o 35 (.fieldAddr 4 (some 4) (.t 2)), o 36 (.fieldAddr 3 none (.t 35)), o 37 (.load none (.t 36)), o 38 (.len 1 (.t 37)), o 39 (.minmax false (.t 34) (.t 38)), o 40 (.mv (.c (.i .i64 0)))]) (.block 0 (.loop 
  (.seq (.region [o 41 (.bin .lss (.t 40) (.t 39))]) 
  (.seq (.cond (.t 41) .skip (.exit 0)) 
  (.seq (.block 1 
  (.seq (.region [m 42 40, m 6 42]) 
  (.seq (.draw [o 43 (.fieldAddr 0 (some 4) (.t 2)), o 44 (.fieldAddr 3 none (.t 43)), o 45 (.load none (.t 44)), m 46 6, o 47 (.idxSl (some 4) (.t 45) (.t 46)), o 48 (.load (some 4) (.t 47)), o 49 (.fieldAddr 4 (some 4) (.t 2)), o 50 (.fieldAddr 3 none (.t 49)), o 51 (.load none (.t 50)), m 52 6, o 53 (.idxSl (some 4) (.t 51) (.t 52)), o 54 (.load (some 4) (.t 53)), m 55 5, o 56 (.build [(.i .u8 0), (.s []), .nilsl, .nilsl, (.i .u8 0), (.s []), .nilsl, .nilsl, .nilsl] [(0, 4, (.t 48)), (4, 4, (.t 54)), (8, 1, (.t 55))]), m 57 1, o 58 (.call (.fn 279) [(.t 56), (.t 57)]), o 59 (.not (.t 58))]) (.cond (.t 59) 
  (.seq (.region [o 4 (.mv (.c (.b false)))]) .ret) .skip)))) (.region [o 60 (.bin .add (.t 40) (.c (.i .i64 1))), m 40 60]))))))) 
  (.seq (.region [o 4 (.mv (.c (.b true)))]) .ret)))))))⟩
def c280 : AFunc := ⟨1, 4, [(2, none)], (some (.seq (.region [o 1 (.box (.t 0)), o 2 (.mv (.c .nf))]) (.seq (.region [o 3 (.mkFunc (.func 338) [] [(.t 1)]), m 2 3]) .ret)))⟩
def c281 : AFunc := ⟨1, 4, [(2, none)], (some (.seq (.region [o 1 (.box (.t 0)), o 2 (.mv (.c .nf))]) (.seq (.region [o 3 (.mkFunc (.func 339) [] [(.t 1)]), m 2 3]) .ret)))⟩
def c285 : AFunc := ⟨3, 49, [], (some 
  (.seq (.region [m 8 1, o 9 (.bin .add (.t 8) (.c (.i .i64 1))), m 6 9]) (.block 0 (.loop 
  (.seq 
  (.seq (.region [m 10 6, m 11 2, o 12 (.bin .lss (.t 10) (.t 11))]) (.cond (.t 12) .skip (.exit 0))) 
  (.seq (.block 1 
  (.seq (.region [m 15 6, m 7 15]) (.block 2 (.loop 
  (.seq 
  (.seq (.draw [m 16 7, m 17 1, o 18 (.bin .gtr (.t 16) (.t 17)), m 19 18, ⟨(some 20), .mv (.t 0), (some (19, true)), []⟩, ⟨(some 21), .mv (.t 7), (some (19, true)), []⟩, ⟨(some 22), .idxSl none (.t 20) (.t 21), (some (19, true)), []⟩, ⟨(some 23), .load none (.t 22), (some (19, true)), []⟩, ⟨(some 24), .mv (.t 0), (some (19, true)), []⟩, ⟨(some 25), .mv (.t 7), (some (19, true)), []⟩, ⟨(some 26), .bin .sub (.t 25) (.c (.i .i64 1)), (some (19, true)), []⟩, ⟨(some 27), .idxSl none (.t 24) (.t 26), (some (19, true)), []⟩, ⟨(some 28), .load none (.t 27), (some (19, true)), []⟩, ⟨(some 29), .call (.fn 291) [(.t 23), (.t 28)], (some (19, true)), []⟩, o 30 (.pick (.t 19) (.t 29) (.c (.b false)))]) (.cond (.t 30) .skip (.exit 2))) 
  (.seq (.block 3 (.draw [m 33 0, m 34 7, m 35 0, m 36 7, o 37 (.bin .sub (.t 36) (.c (.i .i64 1))), m 38 0, m 39 7, o 40 (.bin .sub (.t 39) (.c (.i .i64 1))), o 41 (.idxSl none (.t 38) (.t 40)), o 42 (.load none (.t 41)), m 43 0, m 44 7, o 45 (.idxSl none (.t 43) (.t 44)), o 46 (.load none (.t 45)), o 47 (.idxSl none (.t 33) (.t 34)), u (.store none (.t 47) (.t 42)), o 48 (.idxSl none (.t 35) (.t 37)), u (.store none (.t 48) (.t 46))])) (.region [m 31 7, o 32 (.bin .sub (.t 31) (.c (.i .i64 1))), m 7 32]))))))) (.region [m 13 6, o 14 (.bin .add (.t 13) (.c (.i .i64 1))), m 6 14])))))))⟩
def c295 : AFunc := ⟨1, 25, [(2, none)], (some 
  (.seq (.region [o 2 (.mv (.c (.i .i64 0)))]) 
  (.seq 
  (.seq (.region [m 3 0, o 4 (.bin .geq (.t 3) (.c (.i .u64 4294967296)))]) (.cond (.t 4) 
  (.seq (.region [m 5 0, o 6 (.bin .shr (.t 5) (.c (.i .u64 32))), m 0 6]) (.region [o 2 (.mv (.c (.i .i64 32)))])) .skip)) 
  (.seq 
  (.seq (.region [m 7 0, o 8 (.bin .geq (.t 7) (.c (.i .u64 65536)))]) (.cond (.t 8) 
  (.seq (.region [m 9 0, o 10 (.bin .shr (.t 9) (.c (.i .u64 16))), m 0 10]) (.region [m 11 2, o 12 (.bin .add (.t 11) (.c (.i .i64 16))), m 2 12])) .skip)) 
  (.seq 
  (.seq (.region [m 13 0, o 14 (.bin .geq (.t 13) (.c (.i .u64 256)))]) (.cond (.t 14) 
  (.seq (.region [m 15 0, o 16 (.bin .shr (.t 15) (.c (.i .u64 8))), m 0 16]) (.region [m 17 2, o 18 (.bin .add (.t 17) (.c (.i .i64 8))), m 2 18])) .skip)) 
  (.seq (.region [m 19 2, m 20 0, o 21 (.conv .u8 (.t 20)), o 22 (.indexStr (.c (.s [0, 1, 2, 2, 3, 3, 3, 3, 4, 4, 4, 4, 4, 4, 4, 4, 5, 5, 5, 5, 5, 5, 5, 5, 5, 5, 5, 5, 5, 5, 5, 5, 6, 6, 6, 6, 6, 6, 6, 6, 6, 6, 6, 6, 6, 6, 6, 6, 6, 6, 6, 6, 6, 6, 6, 6, 6, 6, 6, 6, 6, 6, 6, 6, 7, 7, 7, 7, 7, 7, 7, 7, 7, 7, 7, 7, 7, 7, 7, 7, 7, 7, 7, 7, 7, 7, 7, 7, 7, 7, 7, 7, 7, 7, 7, 7, 7, 7, 7, 7, 7, 7, 7, 7, 7, 7, 7, 7, 7, 7, 7, 7, 7, 7, 7, 7, 7, 7, 7, 7, 7, 7, 7, 7, 7, 7, 7, 7, 8, 8, 8, 8, 8, 8, 8, 8, 8, 8, 8, 8, 8, 8, 8, 8, 8, 8, 8, 8, 8, 8, 8, 8, 8, 8, 8, 8, 8, 8, 8, 8, 8, 8, 8, 8, 8, 8, 8, 8, 8, 8, 8, 8, 8, 8, 8, 8, 8, 8, 8, 8, 8, 8, 8, 8, 8, 8, 8, 8, 8, 8, 8, 8, 8, 8, 8, 8, 8, 8, 8, 8, 8, 8, 8, 8, 8, 8, 8, 8, 8, 8, 8, 8, 8, 8, 8, 8, 8, 8, 8, 8, 8, 8, 8, 8, 8, 8, 8, 8, 8, 8, 8, 8, 8, 8, 8, 8, 8, 8, 8, 8, 8, 8, 8, 8, 8, 8, 8, 8, 8, 8, 8, 8, 8, 8, 8, 8])) (.t 21)), o 23 (.conv .i64 (.t 22)), o 24 (.bin .add (.t 19) (.t 23)), m 2 24]) .ret))))))⟩
def c296 : AFunc := ⟨1, 15, [(2, none)], (some 
  (.seq (.region [o 2 (.mv (.c (.s [])))]) 
  (.seq 
  (.seq (.region [m 3 0, o 4 (.bin .lss (.t 3) (.c (.i .i64 10)))]) (.cond (.t 4) 
  (.seq (.region [m 5 0, m 6 0, o 7 (.bin .add (.t 6) (.c (.i .i64 1))), o 8 (.sliceStr (.c (.s [48, 49, 50, 51, 52, 53, 54, 55, 56, 57, 97, 98, 99, 100, 101, 102, 103, 104, 105, 106, 107, 108, 109, 110, 111, 112, 113, 114, 115, 116, 117, 118, 119, 120, 121, 122])) (some (.t 5)) (some (.t 7))), m 2 8]) .ret) .skip)) 
  (.seq (.region [m 9 0, o 10 (.bin .mul (.t 9) (.c (.i .i64 2))), m 11 0, o 12 (.bin .mul (.t 11) (.c (.i .i64 2))), o 13 (.bin .add (.t 12) (.c (.i .i64 2))), o 14 (.sliceStr (.c (.s [48, 48, 48, 49, 48, 50, 48, 51, 48, 52, 48, 53, 48, 54, 48, 55, 48, 56, 48, 57, 49, 48, 49, 49, 49, 50, 49, 51, 49, 52, 49, 53, 49, 54, 49, 55, 49, 56, 49, 57, 50, 48, 50, 49, 50, 50, 50, 51, 50, 52, 50, 53, 50, 54, 50, 55, 50, 56, 50, 57, 51, 48, 51, 49, 51, 50, 51, 51, 51, 52, 51, 53, 51, 54, 51, 55, 51, 56, 51, 57, 52, 48, 52, 49, 52, 50, 52, 51, 52, 52, 52, 53, 52, 54, 52, 55, 52, 56, 52, 57, 53, 48, 53, 49, 53, 50, 53, 51, 53, 52, 53, 53, 53, 54, 53, 55, 53, 56, 53, 57, 54, 48, 54, 49, 54, 50, 54, 51, 54, 52, 54, 53, 54, 54, 54, 55, 54, 56, 54, 57, 55, 48, 55, 49, 55, 50, 55, 51, 55, 52, 55, 53, 55, 54, 55, 55, 55, 56, 55, 57, 56, 48, 56, 49, 56, 50, 56, 51, 56, 52, 56, 53, 56, 54, 56, 55, 56, 56, 56, 57, 57, 48, 57, 49, 57, 50, 57, 51, 57, 52, 57, 53, 57, 54, 57, 55, 57, 56, 57, 57])) (some (.t 10)) (some (.t 13))), m 2 14]) .ret))))⟩
def c300 : AFunc := ⟨3, 49, [], (some 
  (.seq (.region [m 8 1, o 9 (.bin .add (.t 8) (.c (.i .i64 1))), m 6 9]) (.block 0 (.loop 
  (.seq 
  (.seq (.region [m 10 6, m 11 2, o 12 (.bin .lss (.t 10) (.t 11))]) (.cond (.t 12) .skip (.exit 0))) 
  (.seq (.block 1 
  (.seq (.region [m 15 6, m 7 15]) (.block 2 (.loop 
  (.seq 
  (.seq (.draw [m 16 7, m 17 1, o 18 (.bin .gtr (.t 16) (.t 17)), m 19 18, ⟨(some 20), .mv (.t 0), (some (19, true)), []⟩, ⟨(some 21), .mv (.t 7), (some (19, true)), []⟩, ⟨(some 22), .idxSl none (.t 20) (.t 21), (some (19, true)), []⟩, ⟨(some 23), .load none (.t 22), (some (19, true)), []⟩, ⟨(some 24), .mv (.t 0), (some (19, true)), []⟩, ⟨(some 25), .mv (.t 7), (some (19, true)), []⟩, ⟨(some 26), .bin .sub (.t 25) (.c (.i .i64 1)), (some (19, true)), []⟩, ⟨(some 27), .idxSl none (.t 24) (.t 26), (some (19, true)), []⟩, ⟨(some 28), .load none (.t 27), (some (19, true)), []⟩, ⟨(some 29), .call (.fn 306) [(.t 23), (.t 28)], (some (19, true)), []⟩, o 30 (.pick (.t 19) (.t 29) (.c (.b false)))]) (.cond (.t 30) .skip (.exit 2))) 
  (.seq (.block 3 (.draw [m 33 0, m 34 7, m 35 0, m 36 7, o 37 (.bin .sub (.t 36) (.c (.i .i64 1))), m 38 0, m 39 7, o 40 (.bin .sub (.t 39) (.c (.i .i64 1))), o 41 (.idxSl none (.t 38) (.t 40)), o 42 (.load none (.t 41)), m 43 0, m 44 7, o 45 (.idxSl none (.t 43) (.t 44)), o 46 (.load none (.t 45)), o 47 (.idxSl none (.t 33) (.t 34)), u (.store none (.t 47) (.t 42)), o 48 (.idxSl none (.t 35) (.t 37)), u (.store none (.t 48) (.t 46))])) (.region [m 31 7, o 32 (.bin .sub (.t 31) (.c (.i .i64 1))), m 7 32]))))))) (.region [m 13 6, o 14 (.bin .add (.t 13) (.c (.i .i64 1))), m 6 14])))))))⟩
def c306 : AFunc := ⟨2, 17, [(4, none)], (some 
  (.seq (.region [o 4 (.mv (.c (.b false)))]) 
  (.seq (.region [m 5 0, o 6 (.call (.fn 354) [(.t 5)]), m 7 6, ⟨(some 8), .mv (.t 1), (some (7, true)), []⟩, ⟨(some 9), .call (.fn 354) [(.t 8)], (some (7, true)), []⟩, ⟨(some 10), .not (.t 9), (some (7, true)), []⟩, o 11 (.pick (.t 7) (.t 10) (.c (.b false))), m 12 11, ⟨(some 13), .mv (.t 0), (some (12, false)), []⟩, ⟨(some 14), .mv (.t 1), (some (12, false)), []⟩, ⟨(some 15), .bin .lss (.t 13) (.t 14), (some (12, false)), []⟩, o 16 (.pick (.t 12) (.c (.b true)) (.t 15)), m 4 16]) .ret)))⟩
def c309 : AFunc := ⟨2, 19, [(4, none)], (some 
  (.seq (.region [o 4 (.mv (.c (.i .i64 0)))]) 
  (.seq 
  (.seq (.region [m 6 0, o 7 (.len 1 (.t 6)), o 8 (.mv (.c (.i .i64 0)))]) (.block 0 (.loop 
  (.seq (.region [o 9 (.bin .lss (.t 8) (.t 7))]) 
  (.seq (.cond (.t 9) .skip (.exit 0)) 
  (.seq (.block 1 
  (.seq (.region [m 10 8, m 5 10]) 
  (.seq (.region [m 11 1, m 12 0, m 13 5, o 14 (.idxSl (some 5) (.t 12) (.t 13)), o 15 (.load (some 5) (.t 14)), o 16 (.call (.val (.t 11)) [(.t 15)])]) (.cond (.t 16) 
  (.seq (.region [m 17 5, m 4 17]) .ret) .skip)))) (.region [o 18 (.bin .add (.t 8) (.c (.i .i64 1))), m 8 18]))))))) 
  (.seq (.region [o 4 (.mv (.c (.i .i64 (-1))))]) .ret))))⟩
def c310 : AFunc := ⟨2, 66, [(4, none)], (some 
  (.seq (.region [o 3 (.box (.t 1)), o 4 (.mv (.c (.b false)))]) 
  (.seq (.region [o 10 (.fieldAddr 0 (some 4) (.t 3)), o 11 (.load (some 4) (.t 10)), o 5 (.alloc (.ag [(.i .u8 0), (.s []), .nilsl, .nilsl])), u (.store (some 4) (.t 5) (.t 11))]) 
  (.seq 
  (.seq (.region [o 12 (.fieldAddr 0 none (.t 5)), o 13 (.load none (.t 12)), o 14 (.bin .neq (.t 13) (.c (.i .u8 15))), m 15 14, ⟨(some 16), .fieldAddr 0 none (.t 5), (some (15, true)), []⟩, ⟨(some 17), .load none (.t 16), (some (15, true)), []⟩, ⟨(some 18), .bin .neq (.t 17) (.c (.i .u8 16)), (some (15, true)), []⟩, o 19 (.pick (.t 15) (.t 18) (.c (.b false)))]) (.cond (.t 19) 
  (.seq (.region [o 20 (.fieldAddr 2 none (.t 5)), o 21 (.load none (.t 20)), m 22 0, o 23 (.mkFunc (.func 356) [(.t 22)] []), o 24 (.call (.fn 355) [(.t 21), (.t 23)]), m 4 24]) .ret) .skip)) 
  (.seq (.draw [m 26 0, o 27 (.nilCheck (.t 26)), o 28 (.fieldAddr 0 none (.t 27)), ⟨(some 29), .load none (.t 28), none, [11]⟩, o 30 (.fieldAddr 1 none (.t 5)), ⟨(some 31), .load none (.t 30), none, [11]⟩, ⟨(some 32), .lookup (.inl 1) (.t 29) (.t 31) (.ag [(.i .u8 0), (.s []), .nilsl, .nilsl]) true, none, [11]⟩, m 25 32, o 33 (.extract (.t 25) 0), o 34 (.extract (.t 25) 1), o 6 (.alloc (.ag [(.i .u8 0), (.s []), .nilsl, .nilsl])), u (.store (some 4) (.t 6) (.t 33)), m 7 34]) 
  (.seq 
  (.seq (.region [m 35 7, o 36 (.not (.t 35)), m 37 36, ⟨(some 38), .fieldAddr 0 none (.t 5), (some (37, false)), []⟩, ⟨(some 39), .load none (.t 38), (some (37, false)), []⟩, ⟨(some 40), .bin .eql (.t 39) (.c (.i .u8 15)), (some (37, false)), []⟩, o 41 (.pick (.t 37) (.c (.b true)) (.t 40))]) (.cond (.t 41) 
  (.seq (.region [m 42 7, o 43 (.not (.t 42)), m 4 43]) .ret) .skip)) 
  (.seq (.region [o 45 (.load (some 4) (.t 5)), o 46 (.call (.fn 272) [(.t 45)]), m 44 46, o 47 (.extract (.t 44) 0), o 48 (.extract (.t 44) 1), m 8 47, m 9 48]) 
  (.seq (.region [m 50 0, o 51 (.nilCheck (.t 50)), o 52 (.fieldAddr 1 none (.t 51)), o 53 (.load none (.t 52)), m 54 9, o 55 (.lookup (.inl 1) (.t 53) (.t 54) (.ag [(.b false), (.s []), .nilsl]) true), m 49 55, o 56 (.extract (.t 49) 0), o 57 (.extract (.t 49) 1), m 7 57]) 
  (.seq (.region [m 58 7, o 59 (.not (.t 58)), m 60 59, ⟨(some 61), .load (some 4) (.t 6), (some (60, true)), []⟩, ⟨(some 62), .mv (.t 8), (some (60, true)), []⟩, ⟨(some 63), .call (.fn 273) [(.t 61), (.t 62)], (some (60, true)), []⟩, ⟨(some 64), .bin .gtr (.t 63) (.c (.i .i64 0)), (some (60, true)), []⟩, o 65 (.pick (.t 60) (.t 64) (.c (.b false))), m 4 65]) .ret)))))))))⟩
def c311 : AFunc := ⟨2, 10, [(4, none)], (some 
  (.seq (.region [o 3 (.box (.t 1)), o 4 (.mv (.c (.b false)))]) 
  (.seq (.region [m 5 0, o 6 (.load (some 9) (.t 3)), o 7 (.call (.fn 358) [(.t 5), (.t 6)]), o 8 (.mkFunc (.func 359) [] [(.t 3)]), o 9 (.call (.fn 357) [(.t 7), (.t 8)]), m 4 9]) .ret)))⟩
def c312 : AFunc := ⟨2, 75, [(4, none)], (some 
  (.seq (.region [o 3 (.box (.t 1)), o 4 (.mv (.c (.i .i64 0)))]) 
  (.seq (.region [o 13 (.fieldAddr 0 (some 4) (.t 3)), o 14 (.load (some 4) (.t 13)), o 5 (.alloc (.ag [(.i .u8 0), (.s []), .nilsl, .nilsl])), u (.store (some 4) (.t 5) (.t 14))]) 
  (.seq 
  (.seq (.region [o 15 (.fieldAddr 0 none (.t 5)), o 16 (.load none (.t 15))]) (.block 0 
  (.seq (.region [o 18 (.bin .eql (.t 16) (.c (.i .u8 15))), m 17 18]) (.cond (.t 17) 
  (.seq (.draw [m 19 0, o 20 (.nilCheck (.t 19)), o 21 (.fieldAddr 0 none (.t 20)), o 22 (.load none (.t 21)), o 23 (.fieldAddr 1 none (.t 5)), o 24 (.load none (.t 23)), o 25 (.lookup (.inl 1) (.t 22) (.t 24) (.ag [(.i .u8 0), (.s []), .nilsl, .nilsl]) false), o 26 (.call (.fn 275) [(.t 25)]), m 4 26]) .ret) 
  (.seq (.region [o 28 (.bin .eql (.t 16) (.c (.i .u8 16))), m 27 28]) (.cond (.t 27) 
  (.seq (.draw [m 29 0, o 30 (.nilCheck (.t 29)), o 31 (.fieldAddr 0 none (.t 30)), ⟨(some 32), .load none (.t 31), none, [8]⟩, o 33 (.fieldAddr 1 none (.t 5)), ⟨(some 34), .load none (.t 33), none, [8]⟩, ⟨(some 35), .lookup (.inl 1) (.t 32) (.t 34) (.ag [(.i .u8 0), (.s []), .nilsl, .nilsl]) false, none, [8]⟩, o 6 (.alloc (.ag [(.i .u8 0), (.s []), .nilsl, .nilsl])), u (.store (some 4) (.t 6) (.t 35))]) 
  (.seq (.region [o 37 (.load (some 4) (.t 5)), o 38 (.call (.fn 272) [(.t 37)]), m 36 38, o 39 (.extract (.t 36) 0), o 40 (.extract (.t 36) 1), m 7 39, m 8 40]) 
  (.seq (.region [o 41 (.load (some 4) (.t 6)), m 42 7, o 43 (.call (.fn 273) [(.t 41), (.t 42)]), m 9 43]) 
  (.seq 
  (.seq (.region [m 44 9, o 45 (.bin .eql (.t 44) (.c (.i .i64 0)))]) (.cond (.t 45) 
  (.seq (.region [o 46 (.load (some 4) (.t 6)), o 47 (.call (.fn 275) [(.t 46)]), m 4 47]) .ret) .skip)) 
  (.seq (.draw [o 48 (.load (some 4) (.t 6)), m 50 9, m 51 0, o 52 (.nilCheck (.t 51)), o 53 (.fieldAddr 1 none (.t 52)), ⟨(some 54), .load none (.t 53), none, [9]⟩, m 55 8, ⟨(some 56), .lookup (.inl 1) (.t 54) (.t 55) (.ag [(.b false), (.s []), .nilsl]) false, none, [9]⟩, o 49 (.call (.fn 275) [(.t 48)]), o 57 (.call (.fn 276) [(.t 56)]), o 58 (.bin .sub (.t 57) (.c (.i .i64 1))), o 59 (.bin .mul (.t 50) (.t 58)), o 60 (.bin .add (.t 49) (.t 59)), m 4 60]) .ret))))) .skip)))))) 
  (.seq (.region [o 10 (.mv (.c (.i .i64 1)))]) 
  (.seq 
  (.seq (.region [o 61 (.fieldAddr 2 none (.t 5)), o 62 (.load none (.t 61)), o 63 (.len 1 (.t 62)), o 64 (.mv (.c (.i .i64 0)))]) (.block 1 (.loop 
  (.seq (.region [o 65 (.bin .lss (.t 64) (.t 63))]) 
  (.seq (.cond (.t 65) .skip (.exit 1)) 
  (.seq (.block 2 
  (.seq (.region [o 66 (.idxSl (some 3) (.t 62) (.t 64)), o 67 (.load (some 3) (.t 66)), o 12 (.alloc (.ag [(.b false), (.s []), .nilsl])), u (.store (some 3) (.t 12) (.t 67))]) (.region [m 68 10, m 69 0, o 70 (.load (some 3) (.t 12)), o 71 (.call (.fn 360) [(.t 69), (.t 70)]), o 72 (.bin .add (.t 68) (.t 71)), m 10 72]))) (.region [o 73 (.bin .add (.t 64) (.c (.i .i64 1))), m 64 73]))))))) 
  (.seq (.region [m 74 10, m 4 74]) .ret)))))))⟩
def c316 : AFunc := ⟨5, 148, [], (some 
  (.seq (.region [o 10 (.mv (.c (.b true)))]) 
  (.seq (.region [o 11 (.mv (.c (.b true)))]) (.block 0 (.loop (.block 1 
  (.seq (.region [m 21 2, m 22 1, o 23 (.bin .sub (.t 21) (.t 22)), m 12 23]) 
  (.seq 
  (.seq (.region [m 24 12, o 25 (.bin .leq (.t 24) (.c (.i .i64 12)))]) (.cond (.t 25) 
  (.seq (.region [m 26 0, m 27 1, m 28 2, m 29 4, o 30 (.call (.fn 361) [(.t 26), (.t 27), (.t 28), (.t 29)])]) .ret) .skip)) 
  (.seq 
  (.seq (.region [m 31 3, o 32 (.bin .eql (.t 31) (.c (.i .i64 0)))]) (.cond (.t 32) 
  (.seq (.region [m 33 0, m 34 1, m 35 2, m 36 4, o 37 (.call (.fn 362) [(.t 33), (.t 34), (.t 35), (.t 36)])]) .ret) .skip)) 
  (.seq 
  (.seq (.region [m 38 10, o 39 (.not (.t 38))]) (.cond (.t 39) 
  (.seq (.region [m 40 0, m 41 1, m 42 2, m 43 4, o 44 (.call (.fn 363) [(.t 40), (.t 41), (.t 42), (.t 43)])]) (.region [m 45 3, o 46 (.bin .sub (.t 45) (.c (.i .i64 1))), m 3 46])) .skip)) 
  (.seq (.region [m 48 0, m 49 1, m 50 2, m 51 4, o 52 (.call (.fn 364) [(.t 48), (.t 49), (.t 50), (.t 51)]), m 47 52, o 53 (.extract (.t 47) 0), o 54 (.extract (.t 47) 1), m 13 53, m 14 54]) 
  (.seq 
  (.seq (.region [m 55 14, o 56 (.bin .eql (.t 55) (.c (.i .i64 2)))]) (.cond (.t 56) 
  (.seq (.region [m 57 0, m 58 1, m 59 2, m 60 4, o 61 (.call (.fn 365) [(.t 57), (.t 58), (.t 59), (.t 60)])]) 
  (.seq (.region [m 62 2, o 63 (.bin .sub (.t 62) (.c (.i .i64 1))), m 64 13, m 65 1, o 66 (.bin .sub (.t 64) (.t 65)), o 67 (.bin .sub (.t 63) (.t 66)), m 13 67]) (.region [o 14 (.mv (.c (.i .i64 1)))]))) .skip)) 
  (.seq 
  (.seq (.region [m 68 10, m 69 68, ⟨(some 70), .mv (.t 11), (some (69, true)), []⟩, o 71 (.pick (.t 69) (.t 70) (.c (.b false))), m 72 71, ⟨(some 73), .mv (.t 14), (some (72, true)), []⟩, ⟨(some 74), .bin .eql (.t 73) (.c (.i .i64 1)), (some (72, true)), []⟩, o 75 (.pick (.t 72) (.t 74) (.c (.b false)))]) (.cond (.t 75) 
  (.seq (.region [m 76 0, m 77 1, m 78 2, m 79 4, o 80 (.call (.fn 366) [(.t 76), (.t 77), (.t 78), (.t 79)])]) (.cond (.t 80) .ret .skip)) .skip)) 
  (.seq 
  (.seq (.draw [m 81 1, o 82 (.bin .gtr (.t 81) (.c (.i .i64 0))), m 83 82, ⟨(some 84), .mv (.t 4), (some (83, true)), []⟩, ⟨(some 85), .mv (.t 0), (some (83, true)), []⟩, ⟨(some 86), .mv (.t 1), (some (83, true)), []⟩, ⟨(some 87), .bin .sub (.t 86) (.c (.i .i64 1)), (some (83, true)), []⟩, ⟨(some 88), .idxSl (some 4) (.t 85) (.t 87), (some (83, true)), []⟩, ⟨(some 89), .load (some 4) (.t 88), (some (83, true)), []⟩, ⟨(some 90), .mv (.t 0), (some (83, true)), []⟩, ⟨(some 91), .mv (.t 13), (some (83, true)), []⟩, ⟨(some 92), .idxSl (some 4) (.t 90) (.t 91), (some (83, true)), []⟩, ⟨(some 93), .load (some 4) (.t 92), (some (83, true)), []⟩, ⟨(some 94), .call (.val (.t 84)) [(.t 89), (.t 93)], (some (83, true)), []⟩, ⟨(some 95), .bin .lss (.t 94) (.c (.i .i64 0)), (some (83, true)), []⟩, ⟨(some 96), .not (.t 95), (some (83, true)), []⟩, o 97 (.pick (.t 83) (.t 96) (.c (.b false)))]) (.cond (.t 97) 
  (.seq (.region [m 98 0, m 99 1, m 100 2, m 101 13, m 102 4, o 103 (.call (.fn 367) [(.t 98), (.t 99), (.t 100), (.t 101), (.t 102)]), m 15 103]) 
  (.seq (.region [m 104 15, m 1 104]) (.exit 1))) .skip)) 
  (.seq (.region [m 106 0, m 107 1, m 108 2, m 109 13, m 110 4, o 111 (.call (.fn 368) [(.t 106), (.t 107), (.t 108), (.t 109), (.t 110)]), m 105 111, o 112 (.extract (.t 105) 0), o 113 (.extract (.t 105) 1), m 16 112, m 17 113]) 
  (.seq (.region [m 114 17, m 11 114]) 
  (.seq (.region [m 115 16, m 116 1, o 117 (.bin .sub (.t 115) (.t 116)), m 118 2, m 119 16, o 120 (.bin .sub (.t 118) (.t 119)), m 18 117, m 19 120]) 
  (.seq (.region [m 121 12, o 122 (.bin .quo (.t 121) (.c (.i .i64 8))), m 20 122]) 
  (.seq (.region [m 123 18, m 124 19, o 125 (.bin .lss (.t 123) (.t 124))]) (.cond (.t 125) 
  (.seq (.region [m 126 18, m 127 20, o 128 (.bin .geq (.t 126) (.t 127)), m 10 128]) 
  (.seq (.region [m 129 0, m 130 1, m 131 16, m 132 3, m 133 4, o 134 (.call (.fn 316) [(.t 129), (.t 130), (.t 131), (.t 132), (.t 133)])]) (.region [m 135 16, o 136 (.bin .add (.t 135) (.c (.i .i64 1))), m 1 136]))) 
  (.seq (.region [m 137 19, m 138 20, o 139 (.bin .geq (.t 137) (.t 138)), m 10 139]) 
  (.seq (.region [m 140 0, m 141 16, o 142 (.bin .add (.t 141) (.c (.i .i64 1))), m 143 2, m 144 3, m 145 4, o 146 (.call (.fn 316) [(.t 140), (.t 142), (.t 143), (.t 144), (.t 145)])]) (.region [m 147 16, m 2 147])))))))))))))))))))))))⟩
def c317 : AFunc := ⟨2, 8, [(4, none)], (some (.seq (.region [o 4 (.mv (.c (.i .i64 0)))]) (.seq (.region [m 5 0, m 6 1, o 7 (.call (.fn 369) [(.t 5), (.t 6)]), m 4 7]) .ret)))⟩
def c318 : AFunc := ⟨1, 13, [(2, (some (some 6)))], (some 
  (.seq (.region [o 2 (.alloc (.ag [.nf, .nf, .nf, .nf, .nf, .nf]))]) 
  (.seq (.region [m 3 0, o 4 (.mkFunc (.func 371) [(.t 3)] []), o 5 (.build [.nf, .nf] [(0, 1, (.c (.f (.func 370) [] []))), (1, 1, (.t 4))]), m 6 0, o 7 (.mkFunc (.func 373) [(.t 6)] []), o 8 (.build [.nf, .nf] [(0, 1, (.c (.f (.func 372) [] []))), (1, 1, (.t 7))]), m 9 0, o 10 (.mkFunc (.func 375) [(.t 9)] []), o 11 (.build [.nf, .nf] [(0, 1, (.c (.f (.func 374) [] []))), (1, 1, (.t 10))]), o 12 (.build [.nf, .nf, .nf, .nf, .nf, .nf] [(0, 2, (.t 5)), (2, 2, (.t 8)), (4, 2, (.t 11))]), u (.store (some 6) (.t 2) (.t 12))]) .ret)))⟩
def c320 : AFunc := ⟨1, 31, [(2, (some (some 4)))], (some 
  (.seq (.region [o 2 (.alloc (.ag [(.i .u8 0), (.s []), .nilsl, .nilsl]))]) 
  (.seq (.region [m 6 0, m 7 0, o 8 (.mkFunc (.func 376) [(.t 7)] []), o 9 (.call (.fn 245) [(.t 6), (.c (.i .u8 2)), (.t 8)]), o 10 (.build [(.i .u8 0), (.s []), .nilsl, .nilsl] [(0, 1, (.c (.i .u8 15))), (1, 1, (.t 9))]), o 3 (.alloc (.ag [(.i .u8 0), (.s []), .nilsl, .nilsl])), u (.store (some 4) (.t 3) (.t 10))]) 
  (.seq 
  (.seq (.region [m 11 0, o 12 (.call (.fn 168) [(.t 11), (.c (.s [91]))])]) (.cond (.t 12) 
  (.seq (.region [m 13 0, m 14 0, o 15 (.mkFunc (.func 378) [(.t 14)] []), o 16 (.call (.fn 245) [(.t 13), (.c (.i .u8 2)), (.t 15)]), o 17 (.call (.fn 377) [(.t 16)]), o 4 (.alloc (.ag [(.b false), (.s []), .nilsl])), u (.store (some 3) (.t 4) (.t 17))]) 
  (.seq (.region [m 18 0, o 19 (.call (.fn 319) [(.t 18), (.c (.s [47]))])]) 
  (.seq (.region [m 20 0, o 21 (.call (.fn 245) [(.t 20), (.c (.i .u8 1)), (.c (.f (.func 203) [] []))]), o 22 (.call (.fn 377) [(.t 21)]), o 5 (.alloc (.ag [(.b false), (.s []), .nilsl])), u (.store (some 3) (.t 5) (.t 22))]) 
  (.seq (.region [m 23 0, o 24 (.call (.fn 319) [(.t 23), (.c (.s [93]))])]) (.draw [⟨(some 25), .load (some 3) (.t 5), none, [4, 6]⟩, ⟨(some 26), .load (some 3) (.t 4), none, [4, 6]⟩, o 27 (.buildSlice (some 3) 2 [(.b false), (.s []), .nilsl] [(0, (.t 25)), (1, (.t 26))]), o 28 (.fieldAddr 0 none (.t 3)), u (.store none (.t 28) (.c (.i .u8 16))), o 29 (.fieldAddr 2 none (.t 3)), u (.store none (.t 29) (.t 27))]))))) .skip)) 
  (.seq (.region [o 30 (.load (some 4) (.t 3)), u (.store (some 4) (.t 2) (.t 30))]) .ret)))))⟩
def c322 : AFunc := ⟨2, 8, [(4, none)], (some (.seq (.region [o 4 (.mv (.c (.b false)))]) (.seq (.region [m 5 0, m 6 1, o 7 (.call (.fn 128) [(.t 5), (.t 6)]), m 4 7]) .ret)))⟩
def c324 : AFunc := ⟨2, 12, [(4, none)], (some 
  (.seq (.region [o 4 (.mv (.c .nilsl))]) 
  (.seq (.region [m 6 0, o 7 (.call (.fn 382) [(.t 6)]), m 5 7]) 
  (.seq (.region [m 8 5, m 9 1, o 10 (.call (.fn 383) [(.t 8), (.t 9)])]) 
  (.seq (.region [m 11 5, m 4 11]) .ret)))))⟩
def c325 : AFunc := ⟨1, 4, [(2, none)], (some (.seq (.region [o 1 (.box (.t 0)), o 2 (.mv (.c .nf))]) (.seq (.region [o 3 (.mkFunc (.func 384) [] [(.t 1)]), m 2 3]) .ret)))⟩
def c326 : AFunc := ⟨2, 19, [(4, none)], (some 
  (.seq (.region [o 2 (.box (.t 0)), o 3 (.box (.t 1)), o 4 (.mv (.c (.i .i64 0)))]) 
  (.seq 
  (.seq (.region [o 6 (.fieldAddr 0 none (.t 2)), o 7 (.load none (.t 6)), o 8 (.fieldAddr 0 none (.t 3)), o 9 (.load none (.t 8)), o 10 (.call (.fn 238) [(.t 7), (.t 9)]), m 5 10]) 
  (.seq (.region [m 11 5, o 12 (.bin .neq (.t 11) (.c (.i .i64 0)))]) (.cond (.t 12) 
  (.seq (.region [m 13 5, m 4 13]) .ret) .skip))) 
  (.seq (.region [o 14 (.fieldAddr 1 none (.t 2)), o 15 (.load none (.t 14)), o 16 (.fieldAddr 1 none (.t 3)), o 17 (.load none (.t 16)), o 18 (.call (.fn 327) [(.t 15), (.t 17)]), m 4 18]) .ret))))⟩
def c336 : AFunc := ⟨2, 20, [(4, none)], (some 
  (.seq (.region [o 2 (.box (.t 0)), o 3 (.box (.t 1)), o 4 (.mv (.c (.i .i64 0)))]) 
  (.seq (.region [o 5 (.alloc (.i .i64 0)), u (.store none (.t 5) (.c (.i .i64 0)))]) 
  (.seq 
  (.seq (.region [o 7 (.load (some 4) (.t 2)), o 8 (.call (.fn 136) [(.t 7)])]) (.block 0 (.rangeFunc (.t 8) [9] (.region [o 6 (.alloc (.ag [(.i .u8 0), (.s []), .nilsl, .nilsl])), u (.store (some 4) (.t 6) (.t 9))]) (.block 1 
  (.seq (.region [o 10 (.load none (.t 5)), o 11 (.bin .add (.t 10) (.c (.i .i64 1))), u (.store none (.t 5) (.t 11))]) 
  (.seq (.region [o 12 (.fieldAddr 2 none (.t 6)), o 13 (.load none (.t 12)), o 14 (.mkFunc (.func 390) [] [(.t 5), (.t 3)]), o 15 (.call (.fn 259) [(.t 13), (.t 14)])]) 
  (.seq (.region [o 16 (.load none (.t 5)), o 17 (.load none (.t 3)), o 18 (.bin .gtr (.t 16) (.t 17))]) (.cond (.t 18) (.exit 0) .skip)))))))) 
  (.seq (.region [o 19 (.load none (.t 5)), m 4 19]) .ret)))))⟩
def c338 : AFunc := ⟨2, 14, [], (some 
  (.seq (.region [o 4 (.load none (.t 1)), o 5 (.rangeMap (.t 4))]) (.block 0 (.loop 
  (.seq (.region [o 6 (.nextMap (.t 5)), o 7 (.extract (.t 6) 0)]) 
  (.seq (.cond (.t 7) .skip (.exit 0)) (.block 1 
  (.seq (.region [o 8 (.entry (.t 5)), o 9 (.extract (.t 8) 0), m 3 9]) 
  (.seq (.region [m 10 0, m 11 3, o 12 (.call (.val (.t 10)) [(.t 11)]), o 13 (.not (.t 12))]) (.cond (.t 13) .ret .skip))))))))))⟩
def c339 : AFunc := ⟨2, 14, [], (some 
  (.seq (.region [o 4 (.load none (.t 1)), o 5 (.rangeMap (.t 4))]) (.block 0 (.loop 
  (.seq (.region [o 6 (.nextMap (.t 5)), o 7 (.extract (.t 6) 0)]) 
  (.seq (.cond (.t 7) .skip (.exit 0)) (.block 1 
  (.seq (.region [o 8 (.entry (.t 5)), o 9 (.extract (.t 8) 0), m 3 9]) 
  (.seq (.region [m 10 0, m 11 3, o 12 (.call (.val (.t 10)) [(.t 11)]), o 13 (.not (.t 12))]) (.cond (.t 13) .ret .skip))))))))))⟩
def c354 : AFunc := ⟨1, 6, [(2, none)], (some (.seq (.region [o 2 (.mv (.c (.b false)))]) (.seq (.region [m 3 0, m 4 0, o 5 (.bin .neq (.t 3) (.t 4)), m 2 5]) .ret)))⟩
def c357 : AFunc := ⟨2, 9, [(4, none)], (some (.seq (.region [o 4 (.mv (.c (.b false)))]) (.seq (.region [m 5 0, m 6 1, o 7 (.call (.fn 398) [(.t 5), (.t 6)]), o 8 (.bin .geq (.t 7) (.c (.i .i64 0))), m 4 8]) .ret)))⟩
def c358 : AFunc := ⟨2, 75, [(4, none)], (some 
  (.seq (.region [o 3 (.box (.t 1)), o 4 (.mv (.c .nilsl))]) 
  (.seq (.region [o 12 (.fieldAddr 0 (some 4) (.t 3)), o 13 (.load (some 4) (.t 12)), o 5 (.alloc (.ag [(.i .u8 0), (.s []), .nilsl, .nilsl])), u (.store (some 4) (.t 5) (.t 13))]) 
  (.seq 
  (.seq (.region [o 14 (.fieldAddr 0 none (.t 5)), o 15 (.load none (.t 14))]) (.block 0 
  (.seq (.region [o 17 (.bin .eql (.t 15) (.c (.i .u8 15))), m 16 17]) (.cond (.t 16) 
  (.seq (.draw [m 18 0, o 19 (.nilCheck (.t 18)), o 20 (.fieldAddr 0 none (.t 19)), o 21 (.load none (.t 20)), o 22 (.fieldAddr 1 none (.t 5)), o 23 (.load none (.t 22)), o 24 (.lookup (.inl 1) (.t 21) (.t 23) (.ag [(.i .u8 0), (.s []), .nilsl, .nilsl]) false), o 25 (.call (.fn 76) [(.t 24)]), o 26 (.call (.fn 399) [(.t 25)]), m 4 26]) .ret) 
  (.seq (.region [o 28 (.bin .eql (.t 15) (.c (.i .u8 16))), m 27 28]) (.cond (.t 27) 
  (.seq (.region [o 30 (.load (some 4) (.t 5)), o 31 (.call (.fn 272) [(.t 30)]), m 29 31, o 32 (.extract (.t 29) 0), o 33 (.extract (.t 29) 1), o 6 (.alloc (.s [])), u (.store none (.t 6) (.t 32)), m 7 33]) 
  (.seq (.draw [m 34 0, o 35 (.nilCheck (.t 34)), o 36 (.fieldAddr 0 none (.t 35)), o 37 (.load none (.t 36)), o 38 (.fieldAddr 1 none (.t 5)), o 39 (.load none (.t 38)), o 40 (.lookup (.inl 1) (.t 37) (.t 39) (.ag [(.i .u8 0), (.s []), .nilsl, .nilsl]) false), o 41 (.call (.fn 76) [(.t 40)]), o 42 (.call (.fn 399) [(.t 41)]), m 8 42]) 
  (.seq 
  (.seq (.region [m 43 8, o 44 (.load none (.t 6)), o 45 (.call (.fn 284) [(.t 43), (.t 44)]), o 46 (.not (.t 45))]) (.cond (.t 46) 
  (.seq (.region [m 47 8, m 4 47]) .ret) .skip)) 
  (.seq (.region [m 48 8, o 49 (.mkFunc (.func 401) [] [(.t 6)]), o 50 (.call (.fn 400) [(.t 48), (.t 49)]), m 8 50]) 
  (.seq (.region [m 51 8, m 52 0, o 53 (.nilCheck (.t 52)), o 54 (.fieldAddr 1 none (.t 53)), o 55 (.load none (.t 54)), m 56 7, o 57 (.lookup (.inl 1) (.t 55) (.t 56) (.ag [(.b false), (.s []), .nilsl]) false), o 58 (.call (.fn 335) [(.t 57)]), o 59 (.call (.fn 399) [(.t 58)]), o 60 (.append none 16 (.t 51) (.t 59)), m 4 60]) .ret))))) .skip)))))) 
  (.seq (.region [o 9 (.mv (.c .nilsl))]) 
  (.seq 
  (.seq (.region [o 61 (.fieldAddr 2 none (.t 5)), o 62 (.load none (.t 61)), o 63 (.len 1 (.t 62)), o 64 (.mv (.c (.i .i64 0)))]) (.block 1 (.loop 
  (.seq (.region [o 65 (.bin .lss (.t 64) (.t 63))]) 
  (.seq (.cond (.t 65) .skip (.exit 1)) 
  (.seq (.block 2 
  (.seq (.region [o 66 (.idxSl (some 3) (.t 62) (.t 64)), o 67 (.load (some 3) (.t 66)), o 11 (.alloc (.ag [(.b false), (.s []), .nilsl])), u (.store (some 3) (.t 11) (.t 67))]) (.region [m 68 9, m 69 0, o 70 (.load (some 3) (.t 11)), o 71 (.call (.fn 402) [(.t 69), (.t 70)]), o 72 (.append none 16 (.t 68) (.t 71)), m 9 72]))) (.region [o 73 (.bin .add (.t 64) (.c (.i .i64 1))), m 64 73]))))))) 
  (.seq (.region [m 74 9, m 4 74]) .ret)))))))⟩
def c361 : AFunc := ⟨4, 53, [], (some 
  (.seq (.region [m 10 1, o 11 (.bin .add (.t 10) (.c (.i .i64 1))), m 8 11]) (.block 0 (.loop 
  (.seq 
  (.seq (.region [m 12 8, m 13 2, o 14 (.bin .lss (.t 12) (.t 13))]) (.cond (.t 14) .skip (.exit 0))) 
  (.seq (.block 1 
  (.seq (.region [m 17 8, m 9 17]) (.block 2 (.loop 
  (.seq 
  (.seq (.draw [m 18 9, m 19 1, o 20 (.bin .gtr (.t 18) (.t 19)), m 21 20, ⟨(some 22), .mv (.t 3), (some (21, true)), []⟩, ⟨(some 23), .mv (.t 0), (some (21, true)), []⟩, ⟨(some 24), .mv (.t 9), (some (21, true)), []⟩, ⟨(some 25), .idxSl (some 4) (.t 23) (.t 24), (some (21, true)), []⟩, ⟨(some 26), .load (some 4) (.t 25), (some (21, true)), []⟩, ⟨(some 27), .mv (.t 0), (some (21, true)), []⟩, ⟨(some 28), .mv (.t 9), (some (21, true)), []⟩, ⟨(some 29), .bin .sub (.t 28) (.c (.i .i64 1)), (some (21, true)), []⟩, ⟨(some 30), .idxSl (some 4) (.t 27) (.t 29), (some (21, true)), []⟩, ⟨(some 31), .load (some 4) (.t 30), (some (21, true)), []⟩, ⟨(some 32), .call (.val (.t 22)) [(.t 26), (.t 31)], (some (21, true)), []⟩, ⟨(some 33), .bin .lss (.t 32) (.c (.i .i64 0)), (some (21, true)), []⟩, o 34 (.pick (.t 21) (.t 33) (.c (.b false)))]) (.cond (.t 34) .skip (.exit 2))) 
  (.seq (.block 3 (.draw [m 37 0, m 38 9, m 39 0, m 40 9, o 41 (.bin .sub (.t 40) (.c (.i .i64 1))), m 42 0, m 43 9, o 44 (.bin .sub (.t 43) (.c (.i .i64 1))), o 45 (.idxSl (some 4) (.t 42) (.t 44)), o 46 (.load (some 4) (.t 45)), m 47 0, m 48 9, o 49 (.idxSl (some 4) (.t 47) (.t 48)), o 50 (.load (some 4) (.t 49)), o 51 (.idxSl (some 4) (.t 37) (.t 38)), u (.store (some 4) (.t 51) (.t 46)), o 52 (.idxSl (some 4) (.t 39) (.t 41)), u (.store (some 4) (.t 52) (.t 50))])) (.region [m 35 9, o 36 (.bin .sub (.t 35) (.c (.i .i64 1))), m 9 36]))))))) (.region [m 15 8, o 16 (.bin .add (.t 15) (.c (.i .i64 1))), m 8 16])))))))⟩
def c370 : AFunc := ⟨1, 17, [(2, none)], (some 
  (.seq (.region [o 2 (.mv (.c (.b false)))]) 
  (.seq (.region [m 3 0, o 4 (.bin .geq (.t 3) (.c (.i .u8 97))), m 5 4, ⟨(some 6), .mv (.t 0), (some (5, true)), []⟩, ⟨(some 7), .bin .leq (.t 6) (.c (.i .u8 122)), (some (5, true)), []⟩, o 8 (.pick (.t 5) (.t 7) (.c (.b false))), m 9 8, ⟨(some 10), .mv (.t 0), (some (9, false)), []⟩, ⟨(some 11), .bin .geq (.t 10) (.c (.i .u8 65)), (some (9, false)), []⟩, ⟨(some 12), .mv (.t 11), (some (9, false)), []⟩, ⟨(some 13), .mv (.t 0), (some (12, true)), []⟩, ⟨(some 14), .bin .leq (.t 13) (.c (.i .u8 90)), (some (12, true)), []⟩, ⟨(some 15), .pick (.t 12) (.t 14) (.c (.b false)), (some (9, false)), []⟩, o 16 (.pick (.t 9) (.c (.b true)) (.t 15)), m 2 16]) .ret)))⟩
def c371 : AFunc := ⟨1, 24, [(2, none), (3, none), (4, none)], (some 
  (.seq (.region [o 2 (.mv (.c (.i .u8 0))), o 3 (.mv (.c (.s []))), o 4 (.mv (.c (.i .i64 0)))]) 
  (.seq (.region [m 6 0, o 7 (.call (.fn 406) [(.t 6), (.c (.i .i64 1))]), m 5 7]) 
  (.seq (.block 0 
  (.seq (.region [m 9 5, o 10 (.call (.fn 407) [(.t 9)]), m 8 10]) (.cond (.t 8) 
  (.seq (.region [m 11 5, o 2 (.mv (.c (.i .u8 3))), m 3 11, o 4 (.mv (.c (.i .i64 0)))]) .ret) 
  (.seq (.region [m 13 5, o 14 (.call (.fn 203) [(.t 13)]), m 15 14, ⟨(some 16), .mv (.t 5), (some (15, false)), []⟩, ⟨(some 17), .call (.fn 323) [(.t 16)], (some (15, false)), []⟩, o 18 (.pick (.t 15) (.c (.b true)) (.t 17)), m 19 18, ⟨(some 20), .mv (.t 5), (some (19, false)), []⟩, ⟨(some 21), .call (.fn 135) [(.t 20)], (some (19, false)), []⟩, o 22 (.pick (.t 19) (.c (.b true)) (.t 21)), m 12 22]) (.cond (.t 12) 
  (.seq (.region [m 23 5, o 2 (.mv (.c (.i .u8 1))), m 3 23, o 4 (.mv (.c (.i .i64 0)))]) .ret) .skip))))) 
  (.seq (.region [o 2 (.mv (.c (.i .u8 0))), o 3 (.mv (.c (.s []))), o 4 (.mv (.c (.i .i64 41)))]) .ret)))))⟩
def c372 : AFunc := ⟨1, 5, [(2, none)], (some (.seq (.region [o 2 (.mv (.c (.b false)))]) (.seq (.region [m 3 0, o 4 (.bin .eql (.t 3) (.c (.i .u8 63))), m 2 4]) .ret)))⟩
def c373 : AFunc := ⟨1, 12, [(2, none), (3, none), (4, none)], (some 
  (.seq (.region [o 2 (.mv (.c (.i .u8 0))), o 3 (.mv (.c (.s []))), o 4 (.mv (.c (.i .i64 0)))]) 
  (.seq (.region [m 6 0, o 7 (.call (.fn 406) [(.t 6), (.c (.i .i64 1))]), m 5 7]) 
  (.seq 
  (.seq (.region [m 8 5, o 9 (.call (.fn 252) [(.t 8)]), o 10 (.not (.t 9))]) (.cond (.t 10) 
  (.seq (.region [o 2 (.mv (.c (.i .u8 0))), o 3 (.mv (.c (.s []))), o 4 (.mv (.c (.i .i64 41)))]) .ret) .skip)) 
  (.seq (.region [m 11 5, o 2 (.mv (.c (.i .u8 2))), m 3 11, o 4 (.mv (.c (.i .i64 0)))]) .ret)))))⟩
def c374 : AFunc := ⟨1, 3, [(2, none)], (some (.seq (.region [o 2 (.mv (.c (.b false)))]) (.seq (.region [o 2 (.mv (.c (.b true)))]) .ret)))⟩
def c375 : AFunc := ⟨1, 25, [(2, none), (3, none), (4, none)], (some 
  (.seq (.region [o 2 (.mv (.c (.i .u8 0))), o 3 (.mv (.c (.s []))), o 4 (.mv (.c (.i .i64 0)))]) 
  (.seq 
  (.seq (.region [o 7 (.load (some 13) (.g 8)), o 8 (.mv (.c (.i .i64 0)))]) (.block 0 (.loop 
  (.seq (.region [o 9 (.bin .lss (.t 8) (.c (.i .i64 13)))]) 
  (.seq (.cond (.t 9) .skip (.exit 0)) 
  (.seq (.block 1 
  (.seq (.region [o 10 (.indexAgg 13 none (.t 7) (.t 8)), m 6 10]) 
  (.seq (.draw [m 11 0, o 12 (.nilCheck (.t 11)), o 13 (.fieldAddr 1 none (.t 12)), o 14 (.load none (.t 13)), m 15 0, o 16 (.nilCheck (.t 15)), o 17 (.fieldAddr 0 (some 1) (.t 16)), o 18 (.fieldAddr 0 none (.t 17)), o 19 (.load none (.t 18)), o 20 (.sliceStr (.t 14) (some (.t 19)) none), m 21 6, o 22 (.call (.fn 322) [(.t 20), (.t 21)])]) (.cond (.t 22) 
  (.seq (.region [m 23 6, o 2 (.mv (.c (.i .u8 4))), m 3 23, o 4 (.mv (.c (.i .i64 0)))]) .ret) .skip)))) (.region [o 24 (.bin .add (.t 8) (.c (.i .i64 1))), m 8 24]))))))) 
  (.seq (.region [o 2 (.mv (.c (.i .u8 0))), o 3 (.mv (.c (.s []))), o 4 (.mv (.c (.i .i64 40)))]) .ret))))⟩
def c376 : AFunc := ⟨2, 14, [(4, none)], (some 
  (.seq (.region [o 4 (.mv (.c (.b false)))]) 
  (.seq (.region [m 5 0, o 6 (.nilCheck (.t 5)), o 7 (.fieldAddr 3 none (.t 6)), o 8 (.load none (.t 7)), m 9 8, ⟨(some 10), .mv (.t 1), (some (9, true)), []⟩, ⟨(some 11), .sliceStr (.t 10) (some (.c (.i .i64 1))) none, (some (9, true)), []⟩, ⟨(some 12), .call (.fn 135) [(.t 11)], (some (9, true)), []⟩, o 13 (.pick (.t 9) (.t 12) (.c (.b false))), m 4 13]) .ret)))⟩
def c382 : AFunc := ⟨1, 5, [(2, none)], (some (.seq (.region [o 2 (.mv (.c .nilsl))]) (.seq (.region [m 3 0, o 4 (.call (.fn 408) [(.c .nilsl), (.t 3)]), m 2 4]) .ret)))⟩
def c383 : AFunc := ⟨2, 14, [], (some 
  (.seq (.region [m 5 0, o 6 (.len 1 (.t 5)), m 4 6]) (.region [m 7 0, m 8 4, m 9 4, o 10 (.conv .u64 (.t 9)), o 11 (.call (.fn 224) [(.t 10)]), m 12 1, o 13 (.call (.fn 409) [(.t 7), (.c (.i .i64 0)), (.t 8), (.t 11), (.t 12)])])))⟩
def c384 : AFunc := ⟨2, 14, [], (some 
  (.seq (.region [o 4 (.load none (.t 1)), o 5 (.rangeMap (.t 4))]) (.block 0 (.loop 
  (.seq (.region [o 6 (.nextMap (.t 5)), o 7 (.extract (.t 6) 0)]) 
  (.seq (.cond (.t 7) .skip (.exit 0)) (.block 1 
  (.seq (.region [o 8 (.entry (.t 5)), o 9 (.extract (.t 8) 0), o 3 (.alloc (.ag [(.s []), (.i .i64 0)])), u (.store (some 2) (.t 3) (.t 9))]) 
  (.seq (.region [m 10 0, o 11 (.load (some 2) (.t 3)), o 12 (.call (.val (.t 10)) [(.t 11)]), o 13 (.not (.t 12))]) (.cond (.t 13) .ret .skip))))))))))⟩
def c398 : AFunc := ⟨2, 19, [(4, none)], (some 
  (.seq (.region [o 4 (.mv (.c (.i .i64 0)))]) 
  (.seq 
  (.seq (.region [m 6 0, o 7 (.len 1 (.t 6)), o 8 (.mv (.c (.i .i64 0)))]) (.block 0 (.loop 
  (.seq (.region [o 9 (.bin .lss (.t 8) (.t 7))]) 
  (.seq (.cond (.t 9) .skip (.exit 0)) 
  (.seq (.block 1 
  (.seq (.region [m 10 8, m 5 10]) 
  (.seq (.region [m 11 1, m 12 0, m 13 5, o 14 (.idxSl none (.t 12) (.t 13)), o 15 (.load none (.t 14)), o 16 (.call (.val (.t 11)) [(.t 15)])]) (.cond (.t 16) 
  (.seq (.region [m 17 5, m 4 17]) .ret) .skip)))) (.region [o 18 (.bin .add (.t 8) (.c (.i .i64 1))), m 8 18]))))))) 
  (.seq (.region [o 4 (.mv (.c (.i .i64 (-1))))]) .ret))))⟩
def c399 : AFunc := ⟨1, 5, [(2, none)], (some (.seq (.region [o 2 (.mv (.c .nilsl))]) (.seq (.region [m 3 0, o 4 (.call (.fn 400) [(.t 3), (.c (.f (.func 414) [] []))]), m 2 4]) .ret)))⟩
def c400 : AFunc := ⟨2, 42, [(4, none)], (some 
  (.seq (.region [o 4 (.mv (.c .nilsl))]) 
  (.seq (.region [m 8 0, m 9 1, o 10 (.call (.fn 398) [(.t 8), (.t 9)]), m 5 10]) 
  (.seq 
  (.seq (.region [m 11 5, o 12 (.bin .eql (.t 11) (.c (.i .i64 (-1))))]) (.cond (.t 12) 
  (.seq (.region [m 13 0, m 4 13]) .ret) .skip)) 
  (.seq 
  (.seq (.region [m 14 5, o 15 (.bin .add (.t 14) (.c (.i .i64 1))), m 6 15]) (.block 0 (.loop 
  (.seq 
  (.seq (.region [m 16 6, m 17 0, o 18 (.len 1 (.t 17)), o 19 (.bin .lss (.t 16) (.t 18))]) (.cond (.t 19) .skip (.exit 0))) 
  (.seq (.block 1 
  (.seq (.region [m 22 0, m 23 6, o 24 (.idxSl none (.t 22) (.t 23)), o 25 (.load none (.t 24)), m 7 25]) 
  (.seq (.region [m 26 1, m 27 7, o 28 (.call (.val (.t 26)) [(.t 27)]), o 29 (.not (.t 28))]) (.cond (.t 29) 
  (.seq (.region [m 30 0, m 31 5, m 32 7, o 33 (.idxSl none (.t 30) (.t 31)), u (.store none (.t 33) (.t 32))]) (.region [m 34 5, o 35 (.bin .add (.t 34) (.c (.i .i64 1))), m 5 35])) .skip)))) (.region [m 20 6, o 21 (.bin .add (.t 20) (.c (.i .i64 1))), m 6 21])))))) 
  (.seq (.region [m 36 0, m 37 5, o 38 (.sliceSl none (.t 36) (some (.t 37)) none none), u (.bad)]) 
  (.seq (.region [m 39 0, m 40 5, o 41 (.sliceSl none (.t 39) none (some (.t 40)) none), m 4 41]) .ret)))))))⟩
def c406 : AFunc := ⟨2, 42, [(4, none)], (some 
  (.seq (.region [o 4 (.mv (.c (.s [])))]) 
  (.seq (.region [m 6 0, o 7 (.nilCheck (.t 6)), o 8 (.fieldAddr 0 (some 1) (.t 7)), o 9 (.fieldAddr 0 none (.t 8)), o 10 (.load none (.t 9)), m 11 1, o 12 (.bin .add (.t 10) (.t 11)), m 5 12]) 
  (.seq (.block 0 (.loop 
  (.seq 
  (.seq (.region [m 13 5, m 14 0, o 15 (.nilCheck (.t 14)), o 16 (.fieldAddr 1 none (.t 15)), o 17 (.load none (.t 16)), o 18 (.len 0 (.t 17)), o 19 (.bin .lss (.t 13) (.t 18)), m 20 19, ⟨(some 21), .mv (.t 0), (some (20, true)), []⟩, ⟨(some 22), .nilCheck (.t 21), (some (20, true)), []⟩, ⟨(some 23), .fieldAddr 1 none (.t 22), (some (20, true)), []⟩, ⟨(some 24), .load none (.t 23), (some (20, true)), []⟩, ⟨(some 25), .mv (.t 5), (some (20, true)), []⟩, ⟨(some 26), .indexStr (.t 24) (.t 25), (some (20, true)), []⟩, ⟨(some 27), .call (.fn 416) [(.t 26)], (some (20, true)), []⟩, o 28 (.pick (.t 20) (.t 27) (.c (.b false)))]) (.cond (.t 28) .skip (.exit 0))) (.block 1 (.region [m 29 5, o 30 (.bin .add (.t 29) (.c (.i .i64 1))), m 5 30]))))) 
  (.seq (.draw [m 31 0, o 32 (.nilCheck (.t 31)), o 33 (.fieldAddr 1 none (.t 32)), o 34 (.load none (.t 33)), m 35 0, o 36 (.nilCheck (.t 35)), o 37 (.fieldAddr 0 (some 1) (.t 36)), o 38 (.fieldAddr 0 none (.t 37)), o 39 (.load none (.t 38)), m 40 5, o 41 (.sliceStr (.t 34) (some (.t 39)) (some (.t 40))), m 4 41]) .ret)))))⟩
def c407 : AFunc := ⟨1, 11, [(2, none)], (some 
  (.seq (.region [o 2 (.mv (.c (.b false)))]) 
  (.seq 
  (.seq (.region [m 3 0]) (.block 0 
  (.seq 
  (.seq (.region [o 5 (.bin .eql (.t 3) (.c (.s [97, 108, 108]))), m 4 5]) (.cond (.t 4) .skip 
  (.seq (.region [o 6 (.bin .eql (.t 3) (.c (.s [115, 111, 109, 101]))), m 4 6]) (.cond (.t 4) .skip 
  (.seq (.region [o 7 (.bin .eql (.t 3) (.c (.s [102, 97, 108, 115, 101]))), m 4 7]) (.cond (.t 4) .skip 
  (.seq (.region [o 8 (.bin .eql (.t 3) (.c (.s [110, 101, 120, 116]))), m 4 8]) (.cond (.t 4) .skip 
  (.seq (.region [o 9 (.bin .eql (.t 3) (.c (.s [97, 108, 119, 97, 121, 115]))), m 4 9]) (.cond (.t 4) .skip (.region [o 10 (.bin .eql (.t 3) (.c (.s [117, 110, 116, 105, 108]))), m 4 10]))))))))))) (.cond (.t 4) 
  (.seq (.region [o 2 (.mv (.c (.b true)))]) .ret) .skip)))) 
  (.seq (.region [o 2 (.mv (.c (.b false)))]) .ret))))⟩
def c408 : AFunc := ⟨2, 13, [(4, none)], (some 
  (.seq (.region [o 2 (.box (.t 0)), o 4 (.mv (.c .nilsl))]) 
  (.seq 
  (.seq (.region [m 6 1]) (.block 0 (.rangeFunc (.t 6) [7] (.region [o 5 (.alloc (.ag [(.s []), (.i .i64 0)])), u (.store (some 2) (.t 5) (.t 7))]) (.block 1 (.region [o 8 (.load none (.t 2)), o 9 (.load (some 2) (.t 5)), o 10 (.buildSlice (some 2) 1 [(.s []), (.i .i64 0)] [(0, (.t 9))]), o 11 (.append (some 2) 24 (.t 8) (.t 10)), u (.store none (.t 2) (.t 11))]))))) 
  (.seq (.region [o 12 (.load none (.t 2)), m 4 12]) .ret))))⟩
def c409 : AFunc := ⟨5, 148, [], (some 
  (.seq (.region [o 10 (.mv (.c (.b true)))]) 
  (.seq (.region [o 11 (.mv (.c (.b true)))]) (.block 0 (.loop (.block 1 
  (.seq (.region [m 21 2, m 22 1, o 23 (.bin .sub (.t 21) (.t 22)), m 12 23]) 
  (.seq 
  (.seq (.region [m 24 12, o 25 (.bin .leq (.t 24) (.c (.i .i64 12)))]) (.cond (.t 25) 
  (.seq (.region [m 26 0, m 27 1, m 28 2, m 29 4, o 30 (.call (.fn 417) [(.t 26), (.t 27), (.t 28), (.t 29)])]) .ret) .skip)) 
  (.seq 
  (.seq (.region [m 31 3, o 32 (.bin .eql (.t 31) (.c (.i .i64 0)))]) (.cond (.t 32) 
  (.seq (.region [m 33 0, m 34 1, m 35 2, m 36 4, o 37 (.call (.fn 418) [(.t 33), (.t 34), (.t 35), (.t 36)])]) .ret) .skip)) 
  (.seq 
  (.seq (.region [m 38 10, o 39 (.not (.t 38))]) (.cond (.t 39) 
  (.seq (.region [m 40 0, m 41 1, m 42 2, m 43 4, o 44 (.call (.fn 419) [(.t 40), (.t 41), (.t 42), (.t 43)])]) (.region [m 45 3, o 46 (.bin .sub (.t 45) (.c (.i .i64 1))), m 3 46])) .skip)) 
  (.seq (.region [m 48 0, m 49 1, m 50 2, m 51 4, o 52 (.call (.fn 420) [(.t 48), (.t 49), (.t 50), (.t 51)]), m 47 52, o 53 (.extract (.t 47) 0), o 54 (.extract (.t 47) 1), m 13 53, m 14 54]) 
  (.seq 
  (.seq (.region [m 55 14, o 56 (.bin .eql (.t 55) (.c (.i .i64 2)))]) (.cond (.t 56) 
  (.seq (.region [m 57 0, m 58 1, m 59 2, m 60 4, o 61 (.call (.fn 421) [(.t 57), (.t 58), (.t 59), (.t 60)])]) 
  (.seq (.region [m 62 2, o 63 (.bin .sub (.t 62) (.c (.i .i64 1))), m 64 13, m 65 1, o 66 (.bin .sub (.t 64) (.t 65)), o 67 (.bin .sub (.t 63) (.t 66)), m 13 67]) (.region [o 14 (.mv (.c (.i .i64 1)))]))) .skip)) 
  (.seq 
  (.seq (.region [m 68 10, m 69 68, ⟨(some 70), .mv (.t 11), (some (69, true)), []⟩, o 71 (.pick (.t 69) (.t 70) (.c (.b false))), m 72 71, ⟨(some 73), .mv (.t 14), (some (72, true)), []⟩, ⟨(some 74), .bin .eql (.t 73) (.c (.i .i64 1)), (some (72, true)), []⟩, o 75 (.pick (.t 72) (.t 74) (.c (.b false)))]) (.cond (.t 75) 
  (.seq (.region [m 76 0, m 77 1, m 78 2, m 79 4, o 80 (.call (.fn 422) [(.t 76), (.t 77), (.t 78), (.t 79)])]) (.cond (.t 80) .ret .skip)) .skip)) 
  (.seq 
  (.seq (.draw [m 81 1, o 82 (.bin .gtr (.t 81) (.c (.i .i64 0))), m 83 82, ⟨(some 84), .mv (.t 4), (some (83, true)), []⟩, ⟨(some 85), .mv (.t 0), (some (83, true)), []⟩, ⟨(some 86), .mv (.t 1), (some (83, true)), []⟩, ⟨(some 87), .bin .sub (.t 86) (.c (.i .i64 1)), (some (83, true)), []⟩, ⟨(some 88), .idxSl (some 2) (.t 85) (.t 87), (some (83, true)), []⟩, ⟨(some 89), .load (some 2) (.t 88), (some (83, true)), []⟩, ⟨(some 90), .mv (.t 0), (some (83, true)), []⟩, ⟨(some 91), .mv (.t 13), (some (83, true)), []⟩, ⟨(some 92), .idxSl (some 2) (.t 90) (.t 91), (some (83, true)), []⟩, ⟨(some 93), .load (some 2) (.t 92), (some (83, true)), []⟩, ⟨(some 94), .call (.val (.t 84)) [(.t 89), (.t 93)], (some (83, true)), []⟩, ⟨(some 95), .bin .lss (.t 94) (.c (.i .i64 0)), (some (83, true)), []⟩, ⟨(some 96), .not (.t 95), (some (83, true)), []⟩, o 97 (.pick (.t 83) (.t 96) (.c (.b false)))]) (.cond (.t 97) 
  (.seq (.region [m 98 0, m 99 1, m 100 2, m 101 13, m 102 4, o 103 (.call (.fn 423) [(.t 98), (.t 99), (.t 100), (.t 101), (.t 102)]), m 15 103]) 
  (.seq (.region [m 104 15, m 1 104]) (.exit 1))) .skip)) 
  (.seq (.region [m 106 0, m 107 1, m 108 2, m 109 13, m 110 4, o 111 (.call (.fn 424) [(.t 106), (.t 107), (.t 108), (.t 109), (.t 110)]), m 105 111, o 112 (.extract (.t 105) 0), o 113 (.extract (.t 105) 1), m 16 112, m 17 113]) 
  (.seq (.region [m 114 17, m 11 114]) 
  (.seq (.region [m 115 16, m 116 1, o 117 (.bin .sub (.t 115) (.t 116)), m 118 2, m 119 16, o 120 (.bin .sub (.t 118) (.t 119)), m 18 117, m 19 120]) 
  (.seq (.region [m 121 12, o 122 (.bin .quo (.t 121) (.c (.i .i64 8))), m 20 122]) 
  (.seq (.region [m 123 18, m 124 19, o 125 (.bin .lss (.t 123) (.t 124))]) (.cond (.t 125) 
  (.seq (.region [m 126 18, m 127 20, o 128 (.bin .geq (.t 126) (.t 127)), m 10 128]) 
  (.seq (.region [m 129 0, m 130 1, m 131 16, m 132 3, m 133 4, o 134 (.call (.fn 409) [(.t 129), (.t 130), (.t 131), (.t 132), (.t 133)])]) (.region [m 135 16, o 136 (.bin .add (.t 135) (.c (.i .i64 1))), m 1 136]))) 
  (.seq (.region [m 137 19, m 138 20, o 139 (.bin .geq (.t 137) (.t 138)), m 10 139]) 
  (.seq (.region [m 140 0, m 141 16, o 142 (.bin .add (.t 141) (.c (.i .i64 1))), m 143 2, m 144 3, m 145 4, o 146 (.call (.fn 409) [(.t 140), (.t 142), (.t 143), (.t 144), (.t 145)])]) (.region [m 147 16, m 2 147])))))))))))))))))))))))⟩
def c416 : AFunc := ⟨1, 13, [(2, none)], (some 
  (.seq (.region [o 2 (.mv (.c (.b false)))]) 
  (.seq (.region [m 3 0, o 4 (.call (.fn 370) [(.t 3)]), m 5 4, ⟨(some 6), .mv (.t 0), (some (5, false)), []⟩, ⟨(some 7), .bin .geq (.t 6) (.c (.i .u8 48)), (some (5, false)), []⟩, ⟨(some 8), .mv (.t 7), (some (5, false)), []⟩, ⟨(some 9), .mv (.t 0), (some (8, true)), []⟩, ⟨(some 10), .bin .leq (.t 9) (.c (.i .u8 57)), (some (8, true)), []⟩, ⟨(some 11), .pick (.t 8) (.t 10) (.c (.b false)), (some (5, false)), []⟩, o 12 (.pick (.t 5) (.c (.b true)) (.t 11)), m 2 12]) .ret)))⟩
def c417 : AFunc := ⟨4, 53, [], (some 
  (.seq (.region [m 10 1, o 11 (.bin .add (.t 10) (.c (.i .i64 1))), m 8 11]) (.block 0 (.loop 
  (.seq 
  (.seq (.region [m 12 8, m 13 2, o 14 (.bin .lss (.t 12) (.t 13))]) (.cond (.t 14) .skip (.exit 0))) 
  (.seq (.block 1 
  (.seq (.region [m 17 8, m 9 17]) (.block 2 (.loop 
  (.seq 
  (.seq (.draw [m 18 9, m 19 1, o 20 (.bin .gtr (.t 18) (.t 19)), m 21 20, ⟨(some 22), .mv (.t 3), (some (21, true)), []⟩, ⟨(some 23), .mv (.t 0), (some (21, true)), []⟩, ⟨(some 24), .mv (.t 9), (some (21, true)), []⟩, ⟨(some 25), .idxSl (some 2) (.t 23) (.t 24), (some (21, true)), []⟩, ⟨(some 26), .load (some 2) (.t 25), (some (21, true)), []⟩, ⟨(some 27), .mv (.t 0), (some (21, true)), []⟩, ⟨(some 28), .mv (.t 9), (some (21, true)), []⟩, ⟨(some 29), .bin .sub (.t 28) (.c (.i .i64 1)), (some (21, true)), []⟩, ⟨(some 30), .idxSl (some 2) (.t 27) (.t 29), (some (21, true)), []⟩, ⟨(some 31), .load (some 2) (.t 30), (some (21, true)), []⟩, ⟨(some 32), .call (.val (.t 22)) [(.t 26), (.t 31)], (some (21, true)), []⟩, ⟨(some 33), .bin .lss (.t 32) (.c (.i .i64 0)), (some (21, true)), []⟩, o 34 (.pick (.t 21) (.t 33) (.c (.b false)))]) (.cond (.t 34) .skip (.exit 2))) 
  (.seq (.block 3 (.draw [m 37 0, m 38 9, m 39 0, m 40 9, o 41 (.bin .sub (.t 40) (.c (.i .i64 1))), m 42 0, m 43 9, o 44 (.bin .sub (.t 43) (.c (.i .i64 1))), o 45 (.idxSl (some 2) (.t 42) (.t 44)), o 46 (.load (some 2) (.t 45)), m 47 0, m 48 9, o 49 (.idxSl (some 2) (.t 47) (.t 48)), o 50 (.load (some 2) (.t 49)), o 51 (.idxSl (some 2) (.t 37) (.t 38)), u (.store (some 2) (.t 51) (.t 46)), o 52 (.idxSl (some 2) (.t 39) (.t 41)), u (.store (some 2) (.t 52) (.t 50))])) (.region [m 35 9, o 36 (.bin .sub (.t 35) (.c (.i .i64 1))), m 9 36]))))))) (.region [m 15 8, o 16 (.bin .add (.t 15) (.c (.i .i64 1))), m 8 16])))))))⟩
end Go.Lyc.T
