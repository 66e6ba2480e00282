/-
  The code of functions of the program, as the abstract executor reads it. No conditions: definitions and closed facts.
-/
import Derived.Test.YtnbkckejpekkaaaGreatDoorDodes0
noncomputable section
namespace Go.Lyc.T
open Go.Lyc
set_option maxRecDepth 100000
def c315 : AFunc := ⟨1, 24, [(2, none), (3, none), (4, none)], (some 
  (.seq (.region [⟨(some 2), .mv (.c (.i .u8 0)), none, []⟩, ⟨(some 3), .mv (.c (.s [])), none, []⟩, ⟨(some 4), .mv (.c (.i .i64 0)), none, []⟩]) 
  (.seq (.region [⟨(some 6), .mv (.t 0), none, []⟩, ⟨(some 7), .call (.fn 329) [(.t 6), (.c (.i .i64 1))], none, []⟩, ⟨(some 5), .mv (.t 7), none, []⟩]) 
  (.seq (.block 0 
  (.seq (.region [⟨(some 9), .mv (.t 5), none, []⟩, ⟨(some 10), .call (.fn 330) [(.t 9)], none, []⟩, ⟨(some 8), .mv (.t 10), none, []⟩]) (.cond (.t 8) 
  (.seq (.region [⟨(some 11), .mv (.t 5), none, []⟩, ⟨(some 2), .mv (.c (.i .u8 3)), none, []⟩, ⟨(some 3), .mv (.t 11), none, []⟩, ⟨(some 4), .mv (.c (.i .i64 0)), none, []⟩]) .ret) 
  (.seq (.region [⟨(some 13), .mv (.t 5), none, []⟩, ⟨(some 14), .call (.fn 148) [(.t 13)], none, []⟩, ⟨(some 15), .mv (.t 14), none, []⟩, ⟨(some 16), .mv (.t 5), (some (15, false)), []⟩, ⟨(some 17), .call (.fn 203) [(.t 16)], (some (15, false)), []⟩, ⟨(some 18), .pick (.t 15) (.c (.b true)) (.t 17), none, []⟩, ⟨(some 19), .mv (.t 18), none, []⟩, ⟨(some 20), .mv (.t 5), (some (19, false)), []⟩, ⟨(some 21), .call (.fn 91) [(.t 20)], (some (19, false)), []⟩, ⟨(some 22), .pick (.t 19) (.c (.b true)) (.t 21), none, []⟩, ⟨(some 12), .mv (.t 22), none, []⟩]) (.cond (.t 12) 
  (.seq (.region [⟨(some 23), .mv (.t 5), none, []⟩, ⟨(some 2), .mv (.c (.i .u8 1)), none, []⟩, ⟨(some 3), .mv (.t 23), none, []⟩, ⟨(some 4), .mv (.c (.i .i64 0)), none, []⟩]) .ret) .skip))))) 
  (.seq (.region [⟨(some 2), .mv (.c (.i .u8 0)), none, []⟩, ⟨(some 3), .mv (.c (.s [])), none, []⟩, ⟨(some 4), .mv (.c (.i .i64 41)), none, []⟩]) .ret)))))⟩
def c316 : AFunc := ⟨1, 5, [(2, none)], (some 
  (.seq (.region [⟨(some 2), .mv (.c (.b false)), none, []⟩]) 
  (.seq (.region [⟨(some 3), .mv (.t 0), none, []⟩, ⟨(some 4), .bin .eql (.t 3) (.c (.i .u8 63)), none, []⟩, ⟨(some 2), .mv (.t 4), none, []⟩]) .ret)))⟩
def c317 : AFunc := ⟨1, 12, [(2, none), (3, none), (4, none)], (some 
  (.seq (.region [⟨(some 2), .mv (.c (.i .u8 0)), none, []⟩, ⟨(some 3), .mv (.c (.s [])), none, []⟩, ⟨(some 4), .mv (.c (.i .i64 0)), none, []⟩]) 
  (.seq (.region [⟨(some 6), .mv (.t 0), none, []⟩, ⟨(some 7), .call (.fn 329) [(.t 6), (.c (.i .i64 1))], none, []⟩, ⟨(some 5), .mv (.t 7), none, []⟩]) 
  (.seq 
  (.seq (.region [⟨(some 8), .mv (.t 5), none, []⟩, ⟨(some 9), .call (.fn 143) [(.t 8)], none, []⟩, ⟨(some 10), .not (.t 9), none, []⟩]) (.cond (.t 10) 
  (.seq (.region [⟨(some 2), .mv (.c (.i .u8 0)), none, []⟩, ⟨(some 3), .mv (.c (.s [])), none, []⟩, ⟨(some 4), .mv (.c (.i .i64 41)), none, []⟩]) .ret) .skip)) 
  (.seq (.region [⟨(some 11), .mv (.t 5), none, []⟩, ⟨(some 2), .mv (.c (.i .u8 2)), none, []⟩, ⟨(some 3), .mv (.t 11), none, []⟩, ⟨(some 4), .mv (.c (.i .i64 0)), none, []⟩]) .ret)))))⟩
def c318 : AFunc := ⟨1, 3, [(2, none)], (some (.seq (.region [⟨(some 2), .mv (.c (.b false)), none, []⟩]) (.seq (.region [⟨(some 2), .mv (.c (.b true)), none, []⟩]) .ret)))⟩
def c319 : AFunc := ⟨1, 25, [(2, none), (3, none), (4, none)], (some 
  (.seq (.region [⟨(some 2), .mv (.c (.i .u8 0)), none, []⟩, ⟨(some 3), .mv (.c (.s [])), none, []⟩, ⟨(some 4), .mv (.c (.i .i64 0)), none, []⟩]) 
  (.seq 
  (.seq (.region [⟨(some 7), .load (some 13) (.g 7), none, []⟩, ⟨(some 8), .mv (.c (.i .i64 0)), none, []⟩]) (.block 0 (.loop 
  (.seq (.region [⟨(some 9), .bin .lss (.t 8) (.c (.i .i64 13)), none, []⟩]) 
  (.seq (.cond (.t 9) .skip (.exit 0)) 
  (.seq (.block 1 
  (.seq (.region [⟨(some 10), .indexAgg 13 none (.t 7) (.t 8), none, []⟩, ⟨(some 6), .mv (.t 10), none, []⟩]) 
  (.seq (.draw [⟨(some 11), .mv (.t 0), none, []⟩, ⟨(some 12), .nilCheck (.t 11), none, []⟩, ⟨(some 13), .fieldAddr 1 none (.t 12), none, []⟩, ⟨(some 14), .load none (.t 13), none, []⟩, ⟨(some 15), .mv (.t 0), none, []⟩, ⟨(some 16), .nilCheck (.t 15), none, []⟩, ⟨(some 17), .fieldAddr 0 (some 1) (.t 16), none, []⟩, ⟨(some 18), .fieldAddr 0 none (.t 17), none, []⟩, ⟨(some 19), .load none (.t 18), none, []⟩, ⟨(some 20), .sliceStr (.t 14) (some (.t 19)) none, none, []⟩, ⟨(some 21), .mv (.t 6), none, []⟩, ⟨(some 22), .call (.fn 202) [(.t 20), (.t 21)], none, []⟩]) (.cond (.t 22) 
  (.seq (.region [⟨(some 23), .mv (.t 6), none, []⟩, ⟨(some 2), .mv (.c (.i .u8 4)), none, []⟩, ⟨(some 3), .mv (.t 23), none, []⟩, ⟨(some 4), .mv (.c (.i .i64 0)), none, []⟩]) .ret) .skip)))) (.region [⟨(some 24), .bin .add (.t 8) (.c (.i .i64 1)), none, []⟩, ⟨(some 8), .mv (.t 24), none, []⟩]))))))) 
  (.seq (.region [⟨(some 2), .mv (.c (.i .u8 0)), none, []⟩, ⟨(some 3), .mv (.c (.s [])), none, []⟩, ⟨(some 4), .mv (.c (.i .i64 40)), none, []⟩]) .ret))))⟩
def c320 : AFunc := ⟨2, 14, [(4, none)], (some 
  (.seq (.region [⟨(some 4), .mv (.c (.b false)), none, []⟩]) 
  (.seq (.region [⟨(some 5), .mv (.t 0), none, []⟩, ⟨(some 6), .nilCheck (.t 5), none, []⟩, ⟨(some 7), .fieldAddr 3 none (.t 6), none, []⟩, ⟨(some 8), .load none (.t 7), none, []⟩, ⟨(some 9), .mv (.t 8), none, []⟩, ⟨(some 10), .mv (.t 1), (some (9, true)), []⟩, ⟨(some 11), .sliceStr (.t 10) (some (.c (.i .i64 1))) none, (some (9, true)), []⟩, ⟨(some 12), .call (.fn 91) [(.t 11)], (some (9, true)), []⟩, ⟨(some 13), .pick (.t 9) (.t 12) (.c (.b false)), none, []⟩, ⟨(some 4), .mv (.t 13), none, []⟩]) .ret)))⟩
def c321 : AFunc := ⟨1, 5, [(2, (some (some 3)))], (some 
  (.seq (.region [⟨(some 2), .alloc (.ag [(.b false), (.s []), .nilsl]), none, []⟩]) 
  (.seq (.region [⟨(some 3), .mv (.t 0), none, []⟩, ⟨(some 4), .build [(.b false), (.s []), .nilsl] [(0, 1, (.c (.b true))), (1, 1, (.t 3))], none, []⟩, ⟨none, .store (some 3) (.t 2) (.t 4), none, []⟩]) .ret)))⟩
def c322 : AFunc := ⟨2, 14, [(4, none)], (some 
  (.seq (.region [⟨(some 4), .mv (.c (.b false)), none, []⟩]) 
  (.seq (.region [⟨(some 5), .mv (.t 0), none, []⟩, ⟨(some 6), .nilCheck (.t 5), none, []⟩, ⟨(some 7), .fieldAddr 3 none (.t 6), none, []⟩, ⟨(some 8), .load none (.t 7), none, []⟩, ⟨(some 9), .mv (.t 8), none, []⟩, ⟨(some 10), .mv (.t 1), (some (9, true)), []⟩, ⟨(some 11), .sliceStr (.t 10) (some (.c (.i .i64 1))) none, (some (9, true)), []⟩, ⟨(some 12), .call (.fn 203) [(.t 11)], (some (9, true)), []⟩, ⟨(some 13), .pick (.t 9) (.t 12) (.c (.b false)), none, []⟩, ⟨(some 4), .mv (.t 13), none, []⟩]) .ret)))⟩
def c329 : AFunc := ⟨2, 42, [(4, none)], (some 
  (.seq (.region [⟨(some 4), .mv (.c (.s [])), none, []⟩]) 
  (.seq (.region [⟨(some 6), .mv (.t 0), none, []⟩, ⟨(some 7), .nilCheck (.t 6), none, []⟩, ⟨(some 8), .fieldAddr 0 (some 1) (.t 7), none, []⟩, ⟨(some 9), .fieldAddr 0 none (.t 8), none, []⟩, ⟨(some 10), .load none (.t 9), none, []⟩, ⟨(some 11), .mv (.t 1), none, []⟩, ⟨(some 12), .bin .add (.t 10) (.t 11), none, []⟩, ⟨(some 5), .mv (.t 12), none, []⟩]) 
  (.seq (.block 0 (.loop 
  (.seq 
  (.seq (.region [⟨(some 13), .mv (.t 5), none, []⟩, ⟨(some 14), .mv (.t 0), none, []⟩, ⟨(some 15), .nilCheck (.t 14), none, []⟩, ⟨(some 16), .fieldAddr 1 none (.t 15), none, []⟩, ⟨(some 17), .load none (.t 16), none, []⟩, ⟨(some 18), .len 0 (.t 17), none, []⟩, ⟨(some 19), .bin .lss (.t 13) (.t 18), none, []⟩, ⟨(some 20), .mv (.t 19), none, []⟩, ⟨(some 21), .mv (.t 0), (some (20, true)), []⟩, ⟨(some 22), .nilCheck (.t 21), (some (20, true)), []⟩, ⟨(some 23), .fieldAddr 1 none (.t 22), (some (20, true)), []⟩, ⟨(some 24), .load none (.t 23), (some (20, true)), []⟩, ⟨(some 25), .mv (.t 5), (some (20, true)), []⟩, ⟨(some 26), .indexStr (.t 24) (.t 25), (some (20, true)), []⟩, ⟨(some 27), .call (.fn 336) [(.t 26)], (some (20, true)), []⟩, ⟨(some 28), .pick (.t 20) (.t 27) (.c (.b false)), none, []⟩]) (.cond (.t 28) .skip (.exit 0))) (.block 1 (.region [⟨(some 29), .mv (.t 5), none, []⟩, ⟨(some 30), .bin .add (.t 29) (.c (.i .i64 1)), none, []⟩, ⟨(some 5), .mv (.t 30), none, []⟩]))))) 
  (.seq (.draw [⟨(some 31), .mv (.t 0), none, []⟩, ⟨(some 32), .nilCheck (.t 31), none, []⟩, ⟨(some 33), .fieldAddr 1 none (.t 32), none, []⟩, ⟨(some 34), .load none (.t 33), none, []⟩, ⟨(some 35), .mv (.t 0), none, []⟩, ⟨(some 36), .nilCheck (.t 35), none, []⟩, ⟨(some 37), .fieldAddr 0 (some 1) (.t 36), none, []⟩, ⟨(some 38), .fieldAddr 0 none (.t 37), none, []⟩, ⟨(some 39), .load none (.t 38), none, []⟩, ⟨(some 40), .mv (.t 5), none, []⟩, ⟨(some 41), .sliceStr (.t 34) (some (.t 39)) (some (.t 40)), none, []⟩, ⟨(some 4), .mv (.t 41), none, []⟩]) .ret)))))⟩
def c330 : AFunc := ⟨1, 11, [(2, none)], (some 
  (.seq (.region [⟨(some 2), .mv (.c (.b false)), none, []⟩]) 
  (.seq 
  (.seq (.region [⟨(some 3), .mv (.t 0), none, []⟩]) (.block 0 
  (.seq 
  (.seq (.region [⟨(some 5), .bin .eql (.t 3) (.c (.s [97, 108, 108])), none, []⟩, ⟨(some 4), .mv (.t 5), none, []⟩]) (.cond (.t 4) .skip 
  (.seq (.region [⟨(some 6), .bin .eql (.t 3) (.c (.s [115, 111, 109, 101])), none, []⟩, ⟨(some 4), .mv (.t 6), none, []⟩]) (.cond (.t 4) .skip 
  (.seq (.region [⟨(some 7), .bin .eql (.t 3) (.c (.s [102, 97, 108, 115, 101])), none, []⟩, ⟨(some 4), .mv (.t 7), none, []⟩]) (.cond (.t 4) .skip 
  (.seq (.region [⟨(some 8), .bin .eql (.t 3) (.c (.s [110, 101, 120, 116])), none, []⟩, ⟨(some 4), .mv (.t 8), none, []⟩]) (.cond (.t 4) .skip 
  (.seq (.region [⟨(some 9), .bin .eql (.t 3) (.c (.s [97, 108, 119, 97, 121, 115])), none, []⟩, ⟨(some 4), .mv (.t 9), none, []⟩]) (.cond (.t 4) .skip (.region [⟨(some 10), .bin .eql (.t 3) (.c (.s [117, 110, 116, 105, 108])), none, []⟩, ⟨(some 4), .mv (.t 10), none, []⟩]))))))))))) (.cond (.t 4) 
  (.seq (.region [⟨(some 2), .mv (.c (.b true)), none, []⟩]) .ret) .skip)))) 
  (.seq (.region [⟨(some 2), .mv (.c (.b false)), none, []⟩]) .ret))))⟩
def c336 : AFunc := ⟨1, 13, [(2, none)], (some 
  (.seq (.region [⟨(some 2), .mv (.c (.b false)), none, []⟩]) 
  (.seq (.region [⟨(some 3), .mv (.t 0), none, []⟩, ⟨(some 4), .call (.fn 314) [(.t 3)], none, []⟩, ⟨(some 5), .mv (.t 4), none, []⟩, ⟨(some 6), .mv (.t 0), (some (5, false)), []⟩, ⟨(some 7), .bin .geq (.t 6) (.c (.i .u8 48)), (some (5, false)), []⟩, ⟨(some 8), .mv (.t 7), (some (5, false)), []⟩, ⟨(some 9), .mv (.t 0), (some (8, true)), []⟩, ⟨(some 10), .bin .leq (.t 9) (.c (.i .u8 57)), (some (8, true)), []⟩, ⟨(some 11), .pick (.t 8) (.t 10) (.c (.b false)), (some (5, false)), []⟩, ⟨(some 12), .pick (.t 5) (.c (.b true)) (.t 11), none, []⟩, ⟨(some 2), .mv (.t 12), none, []⟩]) .ret)))⟩
end Go.Lyc.T
