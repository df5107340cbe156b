/-
  What the functions compute, by walks through their pure code, and plain laws of it.
-/
import Derived.Test.YtdpjoppdlhfidaaDoorWa
namespace Go.Hu.Sn

def F3 : PFunc := ⟨2, [.tmp 4], (.seq (.reg [⟨.lput 2 (some 3) (.t 0), none⟩, ⟨.lput 3 (some 2) (.t 1), none⟩, ⟨.p 4 .mov [.c (.bool false)], none⟩]) (.seq (.reg [⟨.lwhole 12 2 (some 3), none⟩, ⟨.call (some 13) false (.c (.fn 27 [] [])) [.t 12], none⟩, ⟨.p 11 .mov [.t 13], none⟩, ⟨.p 14 (.ext 0) [.t 11], none⟩, ⟨.p 15 (.ext 1) [.t 11], none⟩, ⟨.p 5 .mov [.t 14], none⟩, ⟨.p 6 .mov [.t 15], none⟩]) (.seq (.reg [⟨.lwhole 17 2 (some 3), none⟩, ⟨.call (some 18) false (.c (.fn 28 [] [])) [.t 17], none⟩, ⟨.p 16 .mov [.t 18], none⟩, ⟨.p 19 (.ext 0) [.t 16], none⟩, ⟨.p 20 (.ext 1) [.t 16], none⟩, ⟨.p 7 .mov [.t 19], none⟩, ⟨.p 8 .mov [.t 20], none⟩]) (.seq (.seq (.reg [⟨.p 21 .mov [.t 5], none⟩, ⟨.p 22 .mov [.t 7], none⟩, ⟨.p 23 (.eq true .tru) [.t 21, .t 22], none⟩, ⟨.p 24 .mov [.t 23], none⟩, ⟨.p 25 .mov [.t 6], some (24, false)⟩, ⟨.p 26 .mov [.t 8], some (24, false)⟩, ⟨.p 27 (.eq true .num) [.t 25, .t 26], some (24, false)⟩, ⟨.p 28 .pick [.t 24, .c (.bool true), .t 27], none⟩, ⟨.p 29 .mov [.t 28], none⟩, ⟨.lwhole 30 2 (some 3), some (29, false)⟩, ⟨.call (some 31) false (.c (.fn 29 [] [])) [.t 30], some (29, false)⟩, ⟨.lwhole 32 2 (some 3), some (29, false)⟩, ⟨.call (some 33) false (.c (.fn 30 [] [])) [.t 32], some (29, false)⟩, ⟨.p 34 (.eq true .num) [.t 31, .t 33], some (29, false)⟩, ⟨.p 35 .pick [.t 29, .c (.bool true), .t 34], none⟩]) (.cond (.t 35) (.seq (.reg [⟨.p 4 .mov [.c (.bool false)], none⟩]) .ret) .skip)) (.seq (.reg [⟨.lwhole 37 2 (some 3), none⟩, ⟨.lia 38 3 none 2 1 (.c (.int 0)), none⟩, ⟨.lload 39 3 38 none, none⟩, ⟨.lia 40 3 none 2 1 (.c (.int 1)), none⟩, ⟨.lload 41 3 40 none, none⟩, ⟨.call (some 42) false (.c (.fn 31 [] [])) [.t 37, .t 39, .t 41], none⟩, ⟨.p 36 .mov [.t 42], none⟩, ⟨.p 43 (.ext 0) [.t 36], none⟩, ⟨.p 44 (.ext 1) [.t 36], none⟩, ⟨.p 5 .mov [.t 43], none⟩, ⟨.p 6 .mov [.t 44], none⟩]) (.seq (.reg [⟨.lwhole 46 2 (some 3), none⟩, ⟨.lia 47 3 none 2 1 (.c (.int 0)), none⟩, ⟨.lload 48 3 47 none, none⟩, ⟨.lia 49 3 none 2 1 (.c (.int 1)), none⟩, ⟨.lload 50 3 49 none, none⟩, ⟨.call (some 51) false (.c (.fn 32 [] [])) [.t 46, .t 48, .t 50], none⟩, ⟨.p 45 .mov [.t 51], none⟩, ⟨.p 52 (.ext 0) [.t 45], none⟩, ⟨.p 53 (.ext 1) [.t 45], none⟩, ⟨.p 7 .mov [.t 52], none⟩, ⟨.p 8 .mov [.t 53], none⟩]) (.seq (.seq (.reg [⟨.p 54 .mov [.t 5], none⟩, ⟨.p 55 .mov [.t 7], none⟩, ⟨.p 56 (.eq true .tru) [.t 54, .t 55], none⟩, ⟨.p 57 .mov [.t 56], none⟩, ⟨.p 58 .mov [.t 6], some (57, false)⟩, ⟨.p 59 .mov [.t 8], some (57, false)⟩, ⟨.p 60 (.eq true .num) [.t 58, .t 59], some (57, false)⟩, ⟨.p 61 .pick [.t 57, .c (.bool true), .t 60], none⟩]) (.cond (.t 61) (.seq (.reg [⟨.p 4 .mov [.c (.bool false)], none⟩]) .ret) .skip)) (.seq (.reg [⟨.lwhole 63 2 (some 3), none⟩, ⟨.lia 64 3 none 2 1 (.c (.int 0)), none⟩, ⟨.lload 65 3 64 none, none⟩, ⟨.call (some 66) false (.c (.fn 33 [] [])) [.t 63, .t 65], none⟩, ⟨.p 62 .mov [.t 66], none⟩, ⟨.p 67 (.ext 0) [.t 62], none⟩, ⟨.p 68 (.ext 1) [.t 62], none⟩, ⟨.lput 9 (some 2) (.c (.agg [.int 0, .int 0])), none⟩, ⟨.lset 9 (some 2) (.t 67), none⟩, ⟨.p 6 .mov [.t 68], none⟩]) (.seq (.reg [⟨.lwhole 70 2 (some 3), none⟩, ⟨.lia 71 3 none 2 1 (.c (.int 0)), none⟩, ⟨.lload 72 3 71 none, none⟩, ⟨.call (some 73) false (.c (.fn 34 [] [])) [.t 70, .t 72], none⟩, ⟨.p 69 .mov [.t 73], none⟩, ⟨.p 74 (.ext 0) [.t 69], none⟩, ⟨.p 75 (.ext 1) [.t 69], none⟩, ⟨.lput 10 (some 2) (.c (.agg [.int 0, .int 0])), none⟩, ⟨.lset 10 (some 2) (.t 74), none⟩, ⟨.p 8 .mov [.t 75], none⟩]) (.seq (.seq (.reg [⟨.lwhole 76 9 (some 2), none⟩, ⟨.lwhole 77 10 (some 2), none⟩, ⟨.p 78 (.eq true (.row [true, true])) [.t 76, .t 77], none⟩, ⟨.p 79 .mov [.t 78], none⟩, ⟨.p 80 .mov [.t 6], some (79, false)⟩, ⟨.p 81 .mov [.t 8], some (79, false)⟩, ⟨.p 82 (.eq true .num) [.t 80, .t 81], some (79, false)⟩, ⟨.p 83 .pick [.t 79, .c (.bool true), .t 82], none⟩]) (.cond (.t 83) (.seq (.reg [⟨.p 4 .mov [.c (.bool false)], none⟩]) .ret) .skip)) (.seq (.reg [⟨.lwhole 85 2 (some 3), none⟩, ⟨.lia 86 3 none 2 1 (.c (.int 0)), none⟩, ⟨.lload 87 3 86 none, none⟩, 
 ⟨.call (some 88) false (.c (.fn 35 [] [])) [.t 85, .t 87], none⟩, ⟨.p 84 .mov [.t 88], none⟩, ⟨.p 89 (.ext 0) [.t 84], none⟩, ⟨.p 90 (.ext 1) [.t 84], none⟩, ⟨.lset 9 (some 2) (.t 89), none⟩, ⟨.p 6 .mov [.t 90], none⟩]) (.seq (.reg [⟨.lwhole 92 2 (some 3), none⟩, ⟨.lia 93 3 none 2 1 (.c (.int 0)), none⟩, ⟨.lload 94 3 93 none, none⟩, ⟨.call (some 95) false (.c (.fn 36 [] [])) [.t 92, .t 94], none⟩, ⟨.p 91 .mov [.t 95], none⟩, ⟨.p 96 (.ext 0) [.t 91], none⟩, ⟨.p 97 (.ext 1) [.t 91], none⟩, ⟨.lset 10 (some 2) (.t 96), none⟩, ⟨.p 8 .mov [.t 97], none⟩]) (.seq (.reg [⟨.lwhole 98 9 (some 2), none⟩, ⟨.lwhole 99 10 (some 2), none⟩, ⟨.p 100 (.eq false (.row [true, true])) [.t 98, .t 99], none⟩, ⟨.p 101 .mov [.t 100], none⟩, ⟨.p 102 .mov [.t 6], some (101, true)⟩, ⟨.p 103 .mov [.t 8], some (101, true)⟩, ⟨.p 104 (.eq false .num) [.t 102, .t 103], some (101, true)⟩, ⟨.p 105 .pick [.t 101, .t 104, .c (.bool false)], none⟩, ⟨.p 106 .mov [.t 105], none⟩, ⟨.call (some 107) false (.c (.fn 37 [] [])) [], some (106, true)⟩, ⟨.p 108 .pick [.t 106, .t 107, .c (.bool false)], none⟩, ⟨.p 4 .mov [.t 108], none⟩]) .ret)))))))))))))⟩
def F4 : PFunc := ⟨2, [.tmp 4], (.seq (.reg [⟨.lput 2 (some 3) (.t 0), none⟩, ⟨.lput 3 (some 4) (.t 1), none⟩, ⟨.p 4 .mov [.c (.bool false)], none⟩]) (.seq (.reg [⟨.lwhole 14 2 (some 3), none⟩, ⟨.call (some 15) false (.c (.fn 38 [] [])) [.t 14], none⟩, ⟨.p 13 .mov [.t 15], none⟩, ⟨.p 16 (.ext 0) [.t 13], none⟩, ⟨.p 17 (.ext 1) [.t 13], none⟩, ⟨.p 5 .mov [.t 16], none⟩, ⟨.p 6 .mov [.t 17], none⟩]) (.seq (.reg [⟨.lwhole 19 2 (some 3), none⟩, ⟨.call (some 20) false (.c (.fn 39 [] [])) [.t 19], none⟩, ⟨.p 18 .mov [.t 20], none⟩, ⟨.p 21 (.ext 0) [.t 18], none⟩, ⟨.p 22 (.ext 1) [.t 18], none⟩, ⟨.p 7 .mov [.t 21], none⟩, ⟨.p 8 .mov [.t 22], none⟩]) (.seq (.seq (.reg [⟨.p 23 .mov [.t 5], none⟩, ⟨.p 24 .mov [.t 7], none⟩, ⟨.p 25 (.eq true .num) [.t 23, .t 24], none⟩, ⟨.p 26 .mov [.t 25], none⟩, ⟨.p 27 .mov [.t 6], some (26, false)⟩, ⟨.p 28 .mov [.t 8], some (26, false)⟩, ⟨.p 29 (.eq true .num) [.t 27, .t 28], some (26, false)⟩, ⟨.p 30 .pick [.t 26, .c (.bool true), .t 29], none⟩]) (.cond (.t 30) (.seq (.reg [⟨.p 4 .mov [.c (.bool false)], none⟩]) .ret) .skip)) (.seq (.reg [⟨.lwhole 32 2 (some 3), none⟩, ⟨.call (some 33) false (.c (.fn 40 [] [])) [.t 32], none⟩, ⟨.p 31 .mov [.t 33], none⟩, ⟨.p 34 (.ext 0) [.t 31], none⟩, ⟨.p 35 (.ext 1) [.t 31], none⟩, ⟨.lput 9 (some 2) (.c (.agg [.int 0, .int 0])), none⟩, ⟨.lset 9 (some 2) (.t 34), none⟩, ⟨.p 6 .mov [.t 35], none⟩]) (.seq (.reg [⟨.lwhole 37 2 (some 3), none⟩, ⟨.call (some 38) false (.c (.fn 41 [] [])) [.t 37], none⟩, ⟨.p 36 .mov [.t 38], none⟩, ⟨.p 39 (.ext 0) [.t 36], none⟩, ⟨.p 40 (.ext 1) [.t 36], none⟩, ⟨.lput 10 (some 2) (.c (.agg [.int 0, .int 0])), none⟩, ⟨.lset 10 (some 2) (.t 39), none⟩, ⟨.p 8 .mov [.t 40], none⟩]) (.seq (.seq (.reg [⟨.lwhole 41 9 (some 2), none⟩, ⟨.lwhole 42 10 (some 2), none⟩, ⟨.p 43 (.eq true (.row [true, true])) [.t 41, .t 42], none⟩, ⟨.p 44 .mov [.t 43], none⟩, ⟨.p 45 .mov [.t 6], some (44, false)⟩, ⟨.p 46 .mov [.t 8], some (44, false)⟩, ⟨.p 47 (.eq true .num) [.t 45, .t 46], some (44, false)⟩, ⟨.p 48 .pick [.t 44, .c (.bool true), .t 47], none⟩]) (.cond (.t 48) (.seq (.reg [⟨.p 4 .mov [.c (.bool false)], none⟩]) .ret) .skip)) (.seq (.reg [⟨.lwhole 50 2 (some 3), none⟩, ⟨.lwhole 51 3 (some 4), none⟩, ⟨.call (some 52) false (.c (.fn 42 [] [])) [.t 50, .t 51], none⟩, ⟨.p 49 .mov [.t 52], none⟩, ⟨.p 53 (.ext 0) [.t 49], none⟩, ⟨.p 54 (.ext 1) [.t 49], none⟩, ⟨.p 11 .mov [.t 53], none⟩, ⟨.p 6 .mov [.t 54], none⟩]) (.seq (.reg [⟨.lwhole 56 2 (some 3), none⟩, ⟨.lwhole 57 3 (some 4), none⟩, ⟨.call (some 58) false (.c (.fn 43 [] [])) [.t 56, .t 57], none⟩, ⟨.p 55 .mov [.t 58], none⟩, ⟨.p 59 (.ext 0) [.t 55], none⟩, ⟨.p 60 (.ext 1) [.t 55], none⟩, ⟨.p 12 .mov [.t 59], none⟩, ⟨.p 8 .mov [.t 60], none⟩]) (.seq (.reg [⟨.p 61 .mov [.t 11], none⟩, ⟨.p 62 .mov [.t 12], none⟩, ⟨.p 63 (.eq false .tru) [.t 61, .t 62], none⟩, ⟨.p 64 .mov [.t 63], none⟩, ⟨.p 65 .mov [.t 6], some (64, true)⟩, ⟨.p 66 .mov [.t 8], some (64, true)⟩, ⟨.p 67 (.eq false .num) [.t 65, .t 66], some (64, true)⟩, ⟨.p 68 .pick [.t 64, .t 67, .c (.bool false)], none⟩, ⟨.p 69 .mov [.t 68], none⟩, ⟨.call (some 70) false (.c (.fn 37 [] [])) [], some (69, true)⟩, ⟨.p 71 .pick [.t 69, .t 70, .c (.bool false)], none⟩, ⟨.p 4 .mov [.t 71], none⟩]) .ret))))))))))⟩
def F5 : PFunc := ⟨1, [.tmp 2], (.seq (.reg [⟨.lput 1 (some 3) (.t 0), none⟩, ⟨.p 2 .mov [.c (.bool false)], none⟩]) (.seq (.reg [⟨.lwhole 8 1 (some 3), none⟩, ⟨.call (some 9) false (.c (.fn 44 [] [])) [.t 8], none⟩, ⟨.p 7 .mov [.t 9], none⟩, ⟨.p 10 (.ext 0) [.t 7], none⟩, ⟨.p 11 (.ext 1) [.t 7], none⟩, ⟨.p 3 .mov [.t 10], none⟩, ⟨.p 4 .mov [.t 11], none⟩]) (.seq (.reg [⟨.lwhole 13 1 (some 3), none⟩, ⟨.call (some 14) false (.c (.fn 45 [] [])) [.t 13], none⟩, ⟨.p 12 .mov [.t 14], none⟩, ⟨.p 15 (.ext 0) [.t 12], none⟩, ⟨.p 16 (.ext 1) [.t 12], none⟩, ⟨.p 5 .mov [.t 15], none⟩, ⟨.p 6 .mov [.t 16], none⟩]) (.seq (.reg [⟨.p 17 .mov [.t 3], none⟩, ⟨.p 18 .mov [.t 5], none⟩, ⟨.call (some 19) false (.c (.fn 46 [] [])) [.t 17, .t 18], none⟩, ⟨.p 20 .mov [.t 19], none⟩, ⟨.p 21 .mov [.t 4], some (20, true)⟩, ⟨.p 22 .mov [.t 6], some (20, true)⟩, ⟨.p 23 (.eq false .num) [.t 21, .t 22], some (20, true)⟩, ⟨.p 24 .pick [.t 20, .t 23, .c (.bool false)], none⟩, ⟨.p 25 .mov [.t 24], none⟩, ⟨.call (some 26) false (.c (.fn 37 [] [])) [], some (25, true)⟩, ⟨.p 27 .pick [.t 25, .t 26, .c (.bool false)], none⟩, ⟨.p 2 .mov [.t 27], none⟩]) .ret))))⟩
def F6 : PFunc := ⟨3, [.tmp 6], (.seq (.reg [⟨.lput 3 (some 3) (.t 0), none⟩, ⟨.p 6 .mov [.c (.bool false)], none⟩]) (.seq (.seq (.reg [⟨.lwhole 27 3 (some 3), none⟩, ⟨.call (some 28) false (.c (.fn 47 [] [])) [.t 27], none⟩, ⟨.p 29 .not [.t 28], none⟩]) (.cond (.t 29) (.seq (.reg [⟨.call (some 30) false (.c (.fn 37 [] [])) [], none⟩, ⟨.p 6 .mov [.t 30], none⟩]) .ret) .skip)) (.seq (.reg [⟨.lwhole 32 3 (some 3), none⟩, ⟨.p 33 .mov [.t 1], none⟩, ⟨.call (some 34) false (.c (.fn 48 [] [])) [.t 32, .t 33], none⟩, ⟨.p 31 .mov [.t 34], none⟩, ⟨.p 35 (.ext 0) [.t 31], none⟩, ⟨.p 36 (.ext 1) [.t 31], none⟩, ⟨.lput 7 (some 3) (.c (.agg [.int 0, .int 0, .lst [] .exact])), none⟩, ⟨.lput 8 (some 2) (.c (.agg [.lst [] .exact, .lst [] .exact])), none⟩, ⟨.lset 7 (some 3) (.t 35), none⟩, ⟨.lset 8 (some 2) (.t 36), none⟩]) (.seq (.reg [⟨.lwhole 38 7 (some 3), none⟩, ⟨.call (some 39) false (.c (.fn 27 [] [])) [.t 38], none⟩, ⟨.p 37 .mov [.t 39], none⟩, ⟨.p 40 (.ext 0) [.t 37], none⟩, ⟨.p 41 (.ext 1) [.t 37], none⟩, ⟨.p 9 .mov [.t 40], none⟩, ⟨.p 10 .mov [.t 41], none⟩]) (.seq (.reg [⟨.lwhole 43 7 (some 3), none⟩, ⟨.call (some 44) false (.c (.fn 44 [] [])) [.t 43], none⟩, ⟨.p 42 .mov [.t 44], none⟩, ⟨.p 45 (.ext 0) [.t 42], none⟩, ⟨.p 46 (.ext 1) [.t 42], none⟩, ⟨.p 11 .mov [.t 45], none⟩, ⟨.p 12 .mov [.t 46], none⟩]) (.seq (.reg [⟨.p 13 .mov [.c (.int 0)], none⟩]) (.seq (.seq (.reg [⟨.la 47 7 none 2, none⟩, ⟨.lload 48 7 47 none, none⟩, ⟨.p 49 .len [.t 48], none⟩, ⟨.p 50 (.bin .gtr) [.t 49, .c (.int 0)], none⟩]) (.cond (.t 50) (.reg [⟨.la 51 7 none 2, none⟩, ⟨.lload 52 7 51 none, none⟩, ⟨.la 53 7 none 2, none⟩, ⟨.lload 54 7 53 none, none⟩, ⟨.p 55 .len [.t 54], none⟩, ⟨.p 56 (.bin .sub) [.t 55, .c (.int 1)], none⟩, ⟨.p 57 (.ea 4) [.t 52, .t 56], none⟩, ⟨.p 58 (.fa 1) [.t 57], none⟩, ⟨.p 59 (.eload none) [.t 58], none⟩, ⟨.p 13 .mov [.t 59], none⟩]) .skip)) (.seq (.reg [⟨.lwhole 61 7 (some 3), none⟩, ⟨.call (some 62) false (.c (.fn 40 [] [])) [.t 61], none⟩, ⟨.p 60 .mov [.t 62], none⟩, ⟨.p 63 (.ext 0) [.t 60], none⟩, ⟨.p 64 (.ext 1) [.t 60], none⟩, ⟨.lput 14 (some 2) (.c (.agg [.int 0, .int 0])), none⟩, ⟨.lset 14 (some 2) (.t 63), none⟩, ⟨.p 15 .mov [.t 64], none⟩]) (.seq (.seq (.reg [⟨.p 65 .mov [.t 10], none⟩, ⟨.p 66 (.eq true .num) [.t 65, .c (.int 0)], none⟩, ⟨.p 67 .mov [.t 66], none⟩, ⟨.p 68 .mov [.t 12], some (67, false)⟩, ⟨.p 69 (.eq true .num) [.t 68, .c (.int 0)], some (67, false)⟩, ⟨.p 70 .pick [.t 67, .c (.bool true), .t 69], none⟩, ⟨.p 71 .mov [.t 70], none⟩, ⟨.p 72 .mov [.t 15], some (71, false)⟩, ⟨.p 73 (.eq true .num) [.t 72, .c (.int 0)], some (71, false)⟩, ⟨.p 74 .pick [.t 71, .c (.bool true), .t 73], none⟩, ⟨.p 75 .mov [.t 74], none⟩, ⟨.p 76 .mov [.t 9], some (75, false)⟩, ⟨.p 77 .not [.t 76], some (75, false)⟩, ⟨.p 78 .pick [.t 75, .c (.bool true), .t 77], none⟩, ⟨.p 79 .mov [.t 78], none⟩, ⟨.p 80 .mov [.t 11], some (79, false)⟩, ⟨.p 81 .len [.t 80], some (79, false)⟩, ⟨.p 82 (.eq true .num) [.t 81, .c (.int 0)], some (79, false)⟩, ⟨.p 83 .pick [.t 79, .c (.bool true), .t 82], none⟩, ⟨.p 84 .mov [.t 83], none⟩, ⟨.lwhole 85 14 (some 2), some (84, false)⟩, ⟨.la 86 8 none 0, some (84, false)⟩, ⟨.lload 87 8 86 none, some (84, false)⟩, ⟨.p 88 .mov [.t 13], some (84, false)⟩, ⟨.p 89 (.ea 1) [.t 87, .t 88], some (84, false)⟩, ⟨.p 90 (.eload none) [.t 89], some (84, false)⟩, ⟨.la 91 8 none 0, some (84, false)⟩, ⟨.lload 92 8 91 none, some (84, false)⟩, ⟨.p 93 (.ea 1) [.t 92, .c (.int 60)], some (84, false)⟩, ⟨.p 94 (.eload none) [.t 93], some (84, false)⟩, ⟨.p 95 (.bin .sub) [.t 90, .t 94], some (84, false)⟩, ⟨.call (some 96) false (.c (.fn 49 [] [])) [.t 85, .t 95], some (84, false)⟩, ⟨.p 97 .not [.t 96], some (84, false)⟩, ⟨.p 98 .pick [.t 84, .c (.bool true), .t 97], none⟩]) (.cond (.t 98) (.seq (.reg [⟨.p 6 .mov [.c (.bool false)], none⟩]) .ret) .skip)) (.seq (.reg [⟨.p 99 .mov [.t 13], none⟩, ⟨.p 100 .mov [.t 2], none⟩, ⟨.call (some 101) false (.c (.fn 50 [] [])) [.t 100, .c (.int 61)], none⟩, ⟨.p 102 (.lit (.int 0) 4 [0, 1, 2, 3] none) [.c (.int 0), 
 .t 99, .t 101, .c (.int 60)], none⟩, ⟨.p 16 .mov [.t 102], none⟩]) (.seq (.seq (.reg [⟨.p 17 .mov [.c (.int 0)], none⟩]) (.block 0 (.loop (.seq (.seq (.reg [⟨.p 103 .mov [.t 17], none⟩, ⟨.p 104 .mov [.t 16], none⟩, ⟨.p 105 .len [.t 104], none⟩, ⟨.p 106 (.bin .lss) [.t 103, .t 105], none⟩]) (.cond (.t 106) .skip (.exit 0))) (.seq (.block 1 (.seq (.reg [⟨.p 109 .mov [.t 16], none⟩, ⟨.p 110 .mov [.t 17], none⟩, ⟨.p 111 (.ea 1) [.t 109, .t 110], none⟩, ⟨.p 112 (.eload none) [.t 111], none⟩, ⟨.p 18 .mov [.t 112], none⟩]) (.seq (.reg [⟨.lwhole 114 7 (some 3), none⟩, ⟨.p 115 .mov [.t 18], none⟩, ⟨.call (some 116) false (.c (.fn 33 [] [])) [.t 114, .t 115], none⟩, ⟨.p 113 .mov [.t 116], none⟩, ⟨.p 117 (.ext 0) [.t 113], none⟩, ⟨.p 118 (.ext 1) [.t 113], none⟩, ⟨.lput 19 (some 2) (.c (.agg [.int 0, .int 0])), none⟩, ⟨.lset 19 (some 2) (.t 117), none⟩, ⟨.p 20 .mov [.t 118], none⟩]) (.seq (.reg [⟨.lwhole 120 7 (some 3), none⟩, ⟨.p 121 .mov [.t 18], none⟩, ⟨.call (some 122) false (.c (.fn 35 [] [])) [.t 120, .t 121], none⟩, ⟨.p 119 .mov [.t 122], none⟩, ⟨.p 123 (.ext 0) [.t 119], none⟩, ⟨.p 124 (.ext 1) [.t 119], none⟩, ⟨.lput 21 (some 2) (.c (.agg [.int 0, .int 0])), none⟩, ⟨.lset 21 (some 2) (.t 123), none⟩, ⟨.p 22 .mov [.t 124], none⟩]) (.seq (.reg [⟨.lwhole 126 7 (some 3), none⟩, ⟨.p 127 .mov [.t 18], none⟩, ⟨.la 128 8 none 0, none⟩, ⟨.lload 129 8 128 none, none⟩, ⟨.p 130 .mov [.t 18], none⟩, ⟨.p 131 (.ea 1) [.t 129, .t 130], none⟩, ⟨.p 132 (.eload none) [.t 131], none⟩, ⟨.call (some 133) false (.c (.fn 31 [] [])) [.t 126, .t 127, .t 132], none⟩, ⟨.p 125 .mov [.t 133], none⟩, ⟨.p 134 (.ext 0) [.t 125], none⟩, ⟨.p 135 (.ext 1) [.t 125], none⟩, ⟨.p 23 .mov [.t 134], none⟩, ⟨.p 24 .mov [.t 135], none⟩]) (.seq (.reg [⟨.p 136 .mov [.t 20], none⟩, ⟨.p 137 (.eq true .num) [.t 136, .c (.int 0)], none⟩, ⟨.p 138 .mov [.t 137], none⟩, ⟨.p 139 .mov [.t 22], some (138, false)⟩, ⟨.p 140 (.eq true .num) [.t 139, .c (.int 0)], some (138, false)⟩, ⟨.p 141 .pick [.t 138, .c (.bool true), .t 140], none⟩, ⟨.p 142 .mov [.t 141], none⟩, ⟨.p 143 .mov [.t 24], some (142, false)⟩, ⟨.p 144 (.eq true .num) [.t 143, .c (.int 0)], some (142, false)⟩, ⟨.p 145 .pick [.t 142, .c (.bool true), .t 144], none⟩, ⟨.p 146 .mov [.t 145], none⟩, ⟨.lwhole 147 19 (some 2), some (146, false)⟩, ⟨.la 148 8 none 0, some (146, false)⟩, ⟨.lload 149 8 148 none, some (146, false)⟩, ⟨.p 150 .mov [.t 18], some (146, false)⟩, ⟨.p 151 (.ea 1) [.t 149, .t 150], some (146, false)⟩, ⟨.p 152 (.eload none) [.t 151], some (146, false)⟩, ⟨.call (some 153) false (.c (.fn 49 [] [])) [.t 147, .t 152], some (146, false)⟩, ⟨.p 154 .not [.t 153], some (146, false)⟩, ⟨.p 155 .pick [.t 146, .c (.bool true), .t 154], none⟩, ⟨.p 156 .mov [.t 155], none⟩, ⟨.lwhole 157 21 (some 2), some (156, false)⟩, ⟨.la 158 8 none 1, some (156, false)⟩, ⟨.lload 159 8 158 none, some (156, false)⟩, ⟨.p 160 .mov [.t 18], some (156, false)⟩, ⟨.p 161 (.ea 1) [.t 159, .t 160], some (156, false)⟩, ⟨.p 162 (.eload none) [.t 161], some (156, false)⟩, ⟨.call (some 163) false (.c (.fn 49 [] [])) [.t 157, .t 162], some (156, false)⟩, ⟨.p 164 .not [.t 163], some (156, false)⟩, ⟨.p 165 .pick [.t 156, .c (.bool true), .t 164], none⟩, ⟨.p 166 .mov [.t 165], none⟩, ⟨.p 167 .mov [.t 23], some (166, false)⟩, ⟨.p 168 .not [.t 167], some (166, false)⟩, ⟨.p 169 .pick [.t 166, .c (.bool true), .t 168], none⟩]) (.cond (.t 169) (.seq (.reg [⟨.p 6 .mov [.c (.bool false)], none⟩]) .ret) .skip))))))) (.reg [⟨.p 107 .mov [.t 17], none⟩, ⟨.p 108 (.bin .add) [.t 107, .c (.int 1)], none⟩, ⟨.p 17 .mov [.t 108], none⟩])))))) (.seq (.reg [⟨.lwhole 171 7 (some 3), none⟩, ⟨.call (some 172) false (.c (.fn 38 [] [])) [.t 171], none⟩, ⟨.p 170 .mov [.t 172], none⟩, ⟨.p 173 (.ext 0) [.t 170], none⟩, ⟨.p 174 (.ext 1) [.t 170], none⟩, ⟨.p 25 .mov [.t 173], none⟩, ⟨.p 26 .mov [.t 174], none⟩]) (.seq (.reg [⟨.p 175 .mov [.t 26], none⟩, ⟨.p 176 (.eq true .num) [.t 175, .c (.int 0)], none⟩, ⟨.p 177 .mov [.t 176], none⟩, ⟨.p 178 .mov [.t 25], some (177, false)⟩, ⟨.call (some 179) false (.c (.fn 51 [] [])) [.t 178, 
 .c (.int 0), .c (.int 60)], some (177, false)⟩, ⟨.p 180 .mov [.t 179], some (177, false)⟩, ⟨.la 181 8 none 0, some (180, true)⟩, ⟨.lload 182 8 181 none, some (180, true)⟩, ⟨.p 183 .mov [.t 25], some (180, true)⟩, ⟨.p 184 (.ea 1) [.t 182, .t 183], some (180, true)⟩, ⟨.p 185 (.eload none) [.t 184], some (180, true)⟩, ⟨.p 186 (.eq false .num) [.t 185, .c (.int 0)], some (180, true)⟩, ⟨.p 187 .pick [.t 180, .t 186, .c (.bool false)], some (177, false)⟩, ⟨.p 188 .pick [.t 177, .c (.bool true), .t 187], none⟩, ⟨.p 189 .mov [.t 188], none⟩, ⟨.p 190 .mov [.t 26], some (189, true)⟩, ⟨.p 191 (.eq false .num) [.t 190, .c (.int 0)], some (189, true)⟩, ⟨.p 192 .mov [.t 191], some (189, true)⟩, ⟨.p 193 .mov [.t 26], some (192, false)⟩, ⟨.p 194 (.eq false .num) [.t 193, .c (.int 4)], some (192, false)⟩, ⟨.p 195 .pick [.t 192, .c (.bool true), .t 194], some (189, true)⟩, ⟨.p 196 .pick [.t 189, .t 195, .c (.bool false)], none⟩, ⟨.p 197 .mov [.t 196], none⟩, ⟨.call (some 198) false (.c (.fn 37 [] [])) [], some (197, true)⟩, ⟨.p 199 .pick [.t 197, .t 198, .c (.bool false)], none⟩, ⟨.p 6 .mov [.t 199], none⟩]) .ret)))))))))))))⟩
def F7 : PFunc := ⟨2, [.tmp 4], (.seq (.reg [⟨.lput 2 (some 3) (.t 0), none⟩, ⟨.lput 3 (some 2) (.t 1), none⟩, ⟨.p 4 .mov [.c (.bool false)], none⟩]) (.seq (.seq (.reg [⟨.lwhole 21 2 (some 3), none⟩, ⟨.call (some 22) false (.c (.fn 47 [] [])) [.t 21], none⟩, ⟨.p 23 .not [.t 22], none⟩]) (.cond (.t 23) (.seq (.reg [⟨.call (some 24) false (.c (.fn 37 [] [])) [], none⟩, ⟨.p 4 .mov [.t 24], none⟩]) .ret) .skip)) (.seq (.reg [⟨.lia 25 3 none 2 1 (.c (.int 0)), none⟩, ⟨.lload 26 3 25 none, none⟩, ⟨.call (some 27) false (.c (.fn 50 [] [])) [.t 26, .c (.int 61)], none⟩, ⟨.p 5 .mov [.t 27], none⟩]) (.seq (.reg [⟨.lwhole 29 2 (some 3), none⟩, ⟨.p 30 .mov [.t 5], none⟩, ⟨.call (some 31) false (.c (.fn 33 [] [])) [.t 29, .t 30], none⟩, ⟨.p 28 .mov [.t 31], none⟩, ⟨.p 32 (.ext 0) [.t 28], none⟩, ⟨.p 33 (.ext 1) [.t 28], none⟩, ⟨.lput 6 (some 2) (.c (.agg [.int 0, .int 0])), none⟩, ⟨.lset 6 (some 2) (.t 32), none⟩, ⟨.p 7 .mov [.t 33], none⟩]) (.seq (.reg [⟨.lwhole 35 2 (some 3), none⟩, ⟨.p 36 .mov [.t 5], none⟩, ⟨.call (some 37) false (.c (.fn 35 [] [])) [.t 35, .t 36], none⟩, ⟨.p 34 .mov [.t 37], none⟩, ⟨.p 38 (.ext 0) [.t 34], none⟩, ⟨.p 39 (.ext 1) [.t 34], none⟩, ⟨.lput 8 (some 2) (.c (.agg [.int 0, .int 0])), none⟩, ⟨.lset 8 (some 2) (.t 38), none⟩, ⟨.p 9 .mov [.t 39], none⟩]) (.seq (.reg [⟨.lwhole 41 2 (some 3), none⟩, ⟨.call (some 42) false (.c (.fn 27 [] [])) [.t 41], none⟩, ⟨.p 40 .mov [.t 42], none⟩, ⟨.p 43 (.ext 0) [.t 40], none⟩, ⟨.p 44 (.ext 1) [.t 40], none⟩, ⟨.p 10 .mov [.t 43], none⟩, ⟨.p 11 .mov [.t 44], none⟩]) (.seq (.seq (.reg [⟨.p 45 .mov [.t 11], none⟩, ⟨.p 46 (.eq true .num) [.t 45, .c (.int 0)], none⟩, ⟨.p 47 .mov [.t 46], none⟩, ⟨.p 48 .mov [.t 9], some (47, false)⟩, ⟨.p 49 .mov [.t 7], some (47, false)⟩, ⟨.p 50 (.eq true .num) [.t 48, .t 49], some (47, false)⟩, ⟨.p 51 .pick [.t 47, .c (.bool true), .t 50], none⟩, ⟨.p 52 .mov [.t 51], none⟩, ⟨.p 53 .mov [.t 7], some (52, false)⟩, ⟨.p 54 (.eq false .num) [.t 53, .c (.int 0)], some (52, false)⟩, ⟨.p 55 .mov [.t 10], some (52, false)⟩, ⟨.p 56 (.eq true .tru) [.t 54, .t 55], some (52, false)⟩, ⟨.p 57 .pick [.t 52, .c (.bool true), .t 56], none⟩, ⟨.p 58 .mov [.t 57], none⟩, ⟨.p 59 .mov [.t 7], some (58, false)⟩, ⟨.p 60 (.eq true .num) [.t 59, .c (.int 0)], some (58, false)⟩, ⟨.p 61 .mov [.t 60], some (58, false)⟩, ⟨.p 62 .mov [.t 7], some (61, true)⟩, ⟨.p 63 (.eq true .num) [.t 62, .c (.int 32)], some (61, true)⟩, ⟨.p 64 .mov [.t 63], some (61, true)⟩, ⟨.lwhole 65 6 (some 2), some (64, false)⟩, ⟨.call (some 66) false (.c (.fn 52 [] [])) [.c (.int 0)], some (64, false)⟩, ⟨.p 67 (.eq true (.row [true, true])) [.t 65, .t 66], some (64, false)⟩, ⟨.p 68 .pick [.t 64, .c (.bool true), .t 67], some (61, true)⟩, ⟨.p 69 .mov [.t 68], some (61, true)⟩, ⟨.lwhole 70 8 (some 2), some (69, false)⟩, ⟨.lwhole 71 6 (some 2), some (69, false)⟩, ⟨.p 72 (.eq true (.row [true, true])) [.t 70, .t 71], some (69, false)⟩, ⟨.p 73 .pick [.t 69, .c (.bool true), .t 72], some (61, true)⟩, ⟨.p 74 .pick [.t 61, .t 73, .c (.bool false)], some (58, false)⟩, ⟨.p 75 .pick [.t 58, .c (.bool true), .t 74], none⟩]) (.cond (.t 75) (.seq (.reg [⟨.p 4 .mov [.c (.bool false)], none⟩]) .ret) .skip)) (.seq (.reg [⟨.lia 76 3 none 2 1 (.c (.int 1)), none⟩, ⟨.lload 77 3 76 none, none⟩, ⟨.call (some 78) false (.c (.fn 50 [] [])) [.t 77, .c (.int 401)], none⟩, ⟨.p 12 .mov [.t 78], none⟩]) (.seq (.seq (.reg [⟨.p 79 .mov [.t 10], none⟩, ⟨.p 80 .mov [.t 79], none⟩, ⟨.lia 81 3 none 2 1 (.c (.int 1)), some (80, true)⟩, ⟨.lload 82 3 81 none, some (80, true)⟩, ⟨.p 83 (.bin .rem) [.t 82, .c (.int 3)], some (80, true)⟩, ⟨.p 84 (.eq true .num) [.t 83, .c (.int 0)], some (80, true)⟩, ⟨.p 85 .pick [.t 80, .t 84, .c (.bool false)], none⟩]) (.cond (.t 85) (.reg [⟨.la 86 6 none 0, none⟩, ⟨.lload 87 6 86 none, none⟩, ⟨.lia 88 3 none 2 1 (.c (.int 1)), none⟩, ⟨.lload 89 3 88 none, none⟩, ⟨.la 90 6 none 1, none⟩, ⟨.lload 91 6 90 none, none⟩, ⟨.la 92 6 none 0, none⟩, ⟨.lload 93 6 92 none, none⟩, ⟨.p 94 (.bin .sub) [.t 91, .t 93], none⟩, ⟨.p 95 (.bin .add) [.t 94, 
 .c (.int 3)], none⟩, ⟨.call (some 96) false (.c (.fn 50 [] [])) [.t 89, .t 95], none⟩, ⟨.p 97 (.bin .add) [.t 87, .t 96], none⟩, ⟨.p 98 (.bin .sub) [.t 97, .c (.int 1)], none⟩, ⟨.call (some 99) false (.c (.fn 50 [] [])) [.t 98, .c (.int 401)], none⟩, ⟨.p 12 .mov [.t 99], none⟩]) .skip)) (.seq (.reg [⟨.lwhole 101 2 (some 3), none⟩, ⟨.p 102 .mov [.t 5], none⟩, ⟨.p 103 .mov [.t 12], none⟩, ⟨.call (some 104) false (.c (.fn 52 [] [])) [.t 103], none⟩, ⟨.call (some 105) false (.c (.fn 53 [] [])) [.c (.int 4), .t 102, .t 104], none⟩, ⟨.call (some 106) false (.c (.fn 42 [] [])) [.t 101, .t 105], none⟩, ⟨.p 100 .mov [.t 106], none⟩, ⟨.p 107 (.ext 0) [.t 100], none⟩, ⟨.p 108 (.ext 1) [.t 100], none⟩, ⟨.p 13 .mov [.t 107], none⟩, ⟨.p 14 .mov [.t 108], none⟩]) (.seq (.reg [⟨.lwhole 110 2 (some 3), none⟩, ⟨.p 111 .mov [.t 5], none⟩, ⟨.p 112 .mov [.t 12], none⟩, ⟨.call (some 113) false (.c (.fn 31 [] [])) [.t 110, .t 111, .t 112], none⟩, ⟨.p 109 .mov [.t 113], none⟩, ⟨.p 114 (.ext 0) [.t 109], none⟩, ⟨.p 115 (.ext 1) [.t 109], none⟩, ⟨.p 15 .mov [.t 114], none⟩, ⟨.p 16 .mov [.t 115], none⟩]) (.seq (.seq (.reg [⟨.p 116 .mov [.t 14], none⟩, ⟨.p 117 (.eq true .num) [.t 116, .c (.int 0)], none⟩, ⟨.p 118 .mov [.t 117], none⟩, ⟨.p 119 .mov [.t 16], some (118, false)⟩, ⟨.p 120 .mov [.t 7], some (118, false)⟩, ⟨.p 121 (.eq true .num) [.t 119, .t 120], some (118, false)⟩, ⟨.p 122 .pick [.t 118, .c (.bool true), .t 121], none⟩, ⟨.p 123 .mov [.t 122], none⟩, ⟨.p 124 .mov [.t 15], some (123, false)⟩, ⟨.p 125 .mov [.t 13], some (123, false)⟩, ⟨.p 126 (.eq true .tru) [.t 124, .t 125], some (123, false)⟩, ⟨.p 127 .pick [.t 123, .c (.bool true), .t 126], none⟩, ⟨.p 128 .mov [.t 127], none⟩, ⟨.p 129 .mov [.t 15], some (128, false)⟩, ⟨.p 130 .mov [.t 129], some (128, false)⟩, ⟨.lwhole 131 6 (some 2), some (130, true)⟩, ⟨.p 132 .mov [.t 12], some (130, true)⟩, ⟨.call (some 133) false (.c (.fn 49 [] [])) [.t 131, .t 132], some (130, true)⟩, ⟨.p 134 .not [.t 133], some (130, true)⟩, ⟨.p 135 .pick [.t 130, .t 134, .c (.bool false)], some (128, false)⟩, ⟨.p 136 .pick [.t 128, .c (.bool true), .t 135], none⟩]) (.cond (.t 136) (.seq (.reg [⟨.p 4 .mov [.c (.bool false)], none⟩]) .ret) .skip)) (.seq (.seq (.reg [⟨.p 137 .mov [.t 10], none⟩, ⟨.p 138 .not [.t 137], none⟩]) (.cond (.t 138) (.seq (.reg [⟨.call (some 139) false (.c (.fn 37 [] [])) [], none⟩, ⟨.p 4 .mov [.t 139], none⟩]) .ret) .skip)) (.seq (.reg [⟨.lwhole 141 2 (some 3), none⟩, ⟨.p 142 .mov [.t 5], none⟩, ⟨.la 143 6 none 0, none⟩, ⟨.lload 144 6 143 none, none⟩, ⟨.call (some 145) false (.c (.fn 31 [] [])) [.t 141, .t 142, .t 144], none⟩, ⟨.p 140 .mov [.t 145], none⟩, ⟨.p 146 (.ext 0) [.t 140], none⟩, ⟨.p 147 (.ext 1) [.t 140], none⟩, ⟨.p 17 .mov [.t 146], none⟩, ⟨.p 18 .mov [.t 147], none⟩]) (.seq (.reg [⟨.lwhole 149 2 (some 3), none⟩, ⟨.p 150 .mov [.t 5], none⟩, ⟨.la 151 6 none 1, none⟩, ⟨.lload 152 6 151 none, none⟩, ⟨.call (some 153) false (.c (.fn 31 [] [])) [.t 149, .t 150, .t 152], none⟩, ⟨.p 148 .mov [.t 153], none⟩, ⟨.p 154 (.ext 0) [.t 148], none⟩, ⟨.p 155 (.ext 1) [.t 148], none⟩, ⟨.p 19 .mov [.t 154], none⟩, ⟨.p 20 .mov [.t 155], none⟩]) (.seq (.reg [⟨.p 156 .mov [.t 18], none⟩, ⟨.p 157 (.eq false .num) [.t 156, .c (.int 0)], none⟩, ⟨.p 158 .mov [.t 157], none⟩, ⟨.p 159 .mov [.t 20], some (158, true)⟩, ⟨.p 160 (.eq false .num) [.t 159, .c (.int 0)], some (158, true)⟩, ⟨.p 161 .pick [.t 158, .t 160, .c (.bool false)], none⟩, ⟨.p 162 .mov [.t 161], none⟩, ⟨.p 163 .mov [.t 17], some (162, true)⟩, ⟨.p 164 .pick [.t 162, .t 163, .c (.bool false)], none⟩, ⟨.p 165 .mov [.t 164], none⟩, ⟨.p 166 .mov [.t 19], some (165, true)⟩, ⟨.p 167 .pick [.t 165, .t 166, .c (.bool false)], none⟩, ⟨.p 168 .mov [.t 167], none⟩, ⟨.lwhole 169 6 (some 2), some (168, true)⟩, ⟨.call (some 170) false (.c (.fn 54 [] [])) [.t 169, .c (.int 0), .c (.int 400)], some (168, true)⟩, ⟨.p 171 .pick [.t 168, .t 170, .c (.bool false)], none⟩, ⟨.p 172 .mov [.t 171], none⟩, ⟨.la 173 8 none 0, some (172, true)⟩, ⟨.lload 174 8 173 none, some (172, 
 true)⟩, ⟨.p 175 (.bin .geq) [.t 174, .c (.int 0)], some (172, true)⟩, ⟨.p 176 .pick [.t 172, .t 175, .c (.bool false)], none⟩, ⟨.p 177 .mov [.t 176], none⟩, ⟨.la 178 8 none 0, some (177, true)⟩, ⟨.lload 179 8 178 none, some (177, true)⟩, ⟨.la 180 8 none 1, some (177, true)⟩, ⟨.lload 181 8 180 none, some (177, true)⟩, ⟨.p 182 (.bin .leq) [.t 179, .t 181], some (177, true)⟩, ⟨.p 183 .pick [.t 177, .t 182, .c (.bool false)], none⟩, ⟨.p 184 .mov [.t 183], none⟩, ⟨.call (some 185) false (.c (.fn 37 [] [])) [], some (184, true)⟩, ⟨.p 186 .pick [.t 184, .t 185, .c (.bool false)], none⟩, ⟨.p 4 .mov [.t 186], none⟩]) .ret))))))))))))))))⟩
def F27 : PFunc := ⟨1, [.tmp 2, .tmp 3], (.seq (.reg [⟨.lput 1 (some 3) (.t 0), none⟩, ⟨.p 2 .mov [.c (.bool false)], none⟩, ⟨.p 3 .mov [.c (.int 0)], none⟩]) (.seq (.seq (.reg [⟨.lwhole 5 1 (some 3), none⟩, ⟨.call (some 6) false (.c (.fn 29 [] [])) [.t 5], none⟩, ⟨.p 4 .mov [.t 6], none⟩]) (.seq (.reg [⟨.p 7 .mov [.t 4], none⟩, ⟨.p 8 (.eq true .num) [.t 7, .c (.int 0)], none⟩]) (.cond (.t 8) (.seq (.reg [⟨.p 9 .mov [.t 4], none⟩, ⟨.p 2 .mov [.c (.bool false)], none⟩, ⟨.p 3 .mov [.t 9], none⟩]) .ret) .skip))) (.seq (.reg [⟨.lwhole 10 1 (some 3), none⟩, ⟨.call (some 11) false (.c (.fn 110 [] [])) [.t 10], none⟩, ⟨.call (some 12) false (.c (.fn 111 [] [])) [.t 11], none⟩, ⟨.p 2 .mov [.t 12], none⟩, ⟨.p 3 .mov [.c (.int 0)], none⟩]) .ret)))⟩
def F29 : PFunc := ⟨1, [.tmp 2], (.seq (.reg [⟨.lput 1 (some 3) (.t 0), none⟩, ⟨.p 2 .mov [.c (.int 0)], none⟩]) (.seq (.reg [⟨.la 7 1 none 0, none⟩, ⟨.lload 8 1 7 (some 2), none⟩, ⟨.call (some 9) false (.c (.fn 113 [] [])) [.t 8, .c (.int 400)], none⟩, ⟨.p 10 .mov [.t 9], none⟩, ⟨.la 11 1 none 2, some (10, true)⟩, ⟨.lload 12 1 11 none, some (10, true)⟩, ⟨.p 13 .len [.t 12], some (10, true)⟩, ⟨.p 14 (.bin .leq) [.t 13, .c (.int 8)], some (10, true)⟩, ⟨.p 15 .pick [.t 10, .t 14, .c (.bool false)], none⟩, ⟨.p 3 .mov [.t 15], none⟩]) (.seq (.reg [⟨.p 4 .mov [.c (.int 0)], none⟩]) (.seq (.seq (.reg [⟨.la 16 1 none 2, none⟩, ⟨.lload 17 1 16 none, none⟩, ⟨.p 18 .len [.t 17], none⟩, ⟨.p 19 .mov [.c (.int 0)], none⟩]) (.block 0 (.loop (.seq (.reg [⟨.p 20 (.bin .lss) [.t 19, .t 18], none⟩]) (.seq (.cond (.t 20) .skip (.exit 0)) (.seq (.block 1 (.seq (.reg [⟨.p 21 (.ea 4) [.t 17, .t 19], none⟩, ⟨.p 22 (.eload (some 4)) [.t 21], none⟩, ⟨.lput 6 (some 4) (.c (.agg [.int 0, .int 0, .int 0, .int 0])), none⟩, ⟨.lset 6 (some 4) (.t 22), none⟩]) (.seq (.reg [⟨.p 23 .mov [.t 3], none⟩, ⟨.p 24 .mov [.t 23], none⟩, ⟨.lwhole 25 6 (some 4), some (24, true)⟩, ⟨.call (some 26) false (.c (.fn 114 [] [])) [.t 25], some (24, true)⟩, ⟨.p 27 .pick [.t 24, .t 26, .c (.bool false)], none⟩, ⟨.p 28 .mov [.t 27], none⟩, ⟨.la 29 6 none 1, some (28, true)⟩, ⟨.lload 30 6 29 none, some (28, true)⟩, ⟨.p 31 .mov [.t 4], some (28, true)⟩, ⟨.p 32 (.bin .geq) [.t 30, .t 31], some (28, true)⟩, ⟨.p 33 .pick [.t 28, .t 32, .c (.bool false)], none⟩, ⟨.p 3 .mov [.t 33], none⟩]) (.reg [⟨.la 34 6 none 1, none⟩, ⟨.lload 35 6 34 none, none⟩, ⟨.p 4 .mov [.t 35], none⟩])))) (.reg [⟨.p 36 (.bin .add) [.t 19, .c (.int 1)], none⟩, ⟨.p 19 .mov [.t 36], none⟩]))))))) (.seq (.seq (.reg [⟨.p 37 .mov [.t 3], none⟩, ⟨.p 38 .not [.t 37], none⟩]) (.cond (.t 38) (.seq (.reg [⟨.p 2 .mov [.c (.int 30)], none⟩]) .ret) .skip)) (.seq (.reg [⟨.p 2 .mov [.c (.int 0)], none⟩]) .ret))))))⟩
def F30 : PFunc := ⟨1, [.tmp 2], (.seq (.reg [⟨.lput 1 (some 3) (.t 0), none⟩, ⟨.p 2 .mov [.c (.int 0)], none⟩]) (.seq (.reg [⟨.la 5 1 none 0, none⟩, ⟨.lload 6 1 5 (some 2), none⟩, ⟨.call (some 7) false (.c (.fn 54 [] [])) [.t 6, .c (.int 0), .c (.int 400)], none⟩, ⟨.p 8 .mov [.t 7], none⟩, ⟨.la 9 1 none 0, some (8, true)⟩, ⟨.la 10 1 (some 9) 1, some (8, true)⟩, ⟨.lload 11 1 10 none, some (8, true)⟩, ⟨.la 12 1 none 0, some (8, true)⟩, ⟨.la 13 1 (some 12) 0, some (8, true)⟩, ⟨.lload 14 1 13 none, some (8, true)⟩, ⟨.p 15 (.bin .sub) [.t 11, .t 14], some (8, true)⟩, ⟨.p 16 (.bin .leq) [.t 15, .c (.int 12)], some (8, true)⟩, ⟨.p 17 .pick [.t 8, .t 16, .c (.bool false)], none⟩, ⟨.p 18 .mov [.t 17], none⟩, ⟨.la 19 1 none 2, some (18, true)⟩, ⟨.lload 20 1 19 none, some (18, true)⟩, ⟨.p 21 .len [.t 20], some (18, true)⟩, ⟨.p 22 (.bin .leq) [.t 21, .c (.int 8)], some (18, true)⟩, ⟨.p 23 .pick [.t 18, .t 22, .c (.bool false)], none⟩, ⟨.p 3 .mov [.t 23], none⟩]) (.seq (.seq (.reg [⟨.p 4 .mov [.c (.int 0)], none⟩]) (.block 0 (.loop (.seq (.seq (.reg [⟨.p 24 .mov [.t 3], none⟩, ⟨.p 25 .mov [.t 24], none⟩, ⟨.p 26 .mov [.t 4], some (25, true)⟩, ⟨.la 27 1 none 2, some (25, true)⟩, ⟨.lload 28 1 27 none, some (25, true)⟩, ⟨.p 29 .len [.t 28], some (25, true)⟩, ⟨.p 30 (.bin .lss) [.t 26, .t 29], some (25, true)⟩, ⟨.p 31 .pick [.t 25, .t 30, .c (.bool false)], none⟩]) (.cond (.t 31) .skip (.exit 0))) (.seq (.block 1 (.reg [⟨.la 34 1 none 2, none⟩, ⟨.lload 35 1 34 none, none⟩, ⟨.p 36 .mov [.t 4], none⟩, ⟨.p 37 (.ea 4) [.t 35, .t 36], none⟩, ⟨.p 38 (.eload (some 4)) [.t 37], none⟩, ⟨.call (some 39) false (.c (.fn 115 [] [])) [.t 38], none⟩, ⟨.p 40 .mov [.t 39], none⟩, ⟨.p 41 .mov [.t 4], some (40, true)⟩, ⟨.p 42 (.eq false .num) [.t 41, .c (.int 0)], some (40, true)⟩, ⟨.p 43 .mov [.t 42], some (40, true)⟩, ⟨.la 44 1 none 2, some (43, false)⟩, ⟨.lload 45 1 44 none, some (43, false)⟩, ⟨.p 46 .mov [.t 4], some (43, false)⟩, ⟨.p 47 (.ea 4) [.t 45, .t 46], some (43, false)⟩, ⟨.p 48 (.fa 1) [.t 47], some (43, false)⟩, ⟨.p 49 (.eload none) [.t 48], some (43, false)⟩, ⟨.la 50 1 none 2, some (43, false)⟩, ⟨.lload 51 1 50 none, some (43, false)⟩, ⟨.p 52 .mov [.t 4], some (43, false)⟩, ⟨.p 53 (.bin .sub) [.t 52, .c (.int 1)], some (43, false)⟩, ⟨.p 54 (.ea 4) [.t 51, .t 53], some (43, false)⟩, ⟨.p 55 (.fa 1) [.t 54], some (43, false)⟩, ⟨.p 56 (.eload none) [.t 55], some (43, false)⟩, ⟨.p 57 (.bin .geq) [.t 49, .t 56], some (43, false)⟩, ⟨.p 58 .pick [.t 43, .c (.bool true), .t 57], some (40, true)⟩, ⟨.p 59 .pick [.t 40, .t 58, .c (.bool false)], none⟩, ⟨.p 3 .mov [.t 59], none⟩])) (.reg [⟨.p 32 .mov [.t 4], none⟩, ⟨.p 33 (.bin .add) [.t 32, .c (.int 1)], none⟩, ⟨.p 4 .mov [.t 33], none⟩])))))) (.seq (.seq (.reg [⟨.p 60 .mov [.t 3], none⟩, ⟨.p 61 .not [.t 60], none⟩]) (.cond (.t 61) (.seq (.reg [⟨.p 2 .mov [.c (.int 30)], none⟩]) .ret) .skip)) (.seq (.reg [⟨.p 2 .mov [.c (.int 0)], none⟩]) .ret)))))⟩
def F31 : PFunc := ⟨3, [.heap 6 none, .heap 7 none], (.seq (.reg [⟨.lput 3 (some 3) (.t 0), none⟩, ⟨.lput 5 none (.t 2), none⟩, ⟨.hbox 6 none (.c (.bool false)), none⟩, ⟨.hbox 7 none (.c (.int 0)), none⟩]) (.seq (.reg [⟨.lwhole 12 3 (some 3), none⟩, ⟨.p 13 .mov [.t 1], none⟩, ⟨.call (some 14) false (.c (.fn 117 [] [])) [.t 13], none⟩, ⟨.p 15 .mov [.t 14], none⟩, ⟨.lwhole 16 5 none, some (15, true)⟩, ⟨.call (some 17) false (.c (.fn 118 [] [])) [.t 16, .c (.int 0), .c (.int 400)], some (15, true)⟩, ⟨.p 18 .pick [.t 15, .t 17, .c (.bool false)], none⟩, ⟨.call (some 19) false (.c (.fn 116 [] [])) [.t 12, .t 18], none⟩, ⟨.p 11 .mov [.t 19], none⟩, ⟨.p 20 (.ext 0) [.t 11], none⟩, ⟨.p 21 (.ext 1) [.t 11], none⟩, ⟨.lput 8 (some 8) (.c (.agg [.int 0, .int 0, .lst [] .exact, .int 0, .int 0, .int 0, .int 0, .int 0])), none⟩, ⟨.lset 8 (some 8) (.t 20), none⟩, ⟨.p 9 .mov [.t 21], none⟩]) (.seq (.seq (.reg [⟨.p 22 .mov [.t 9], none⟩, ⟨.p 23 (.eq true .num) [.t 22, .c (.int 0)], none⟩]) (.cond (.t 23) (.seq (.reg [⟨.p 24 .mov [.t 9], none⟩, ⟨.store none (.t 6) (.c (.bool false)), none⟩, ⟨.store none (.t 7) (.t 24), none⟩]) .ret) .skip)) (.seq (.seq (.reg [⟨.lwhole 25 8 (some 8), none⟩, ⟨.p 26 .mov [.t 1], none⟩, ⟨.call (some 27) false (.c (.fn 119 [] [])) [.t 25, .t 26], none⟩]) (.block 0 (.rfunc (.t 27) [28] [10] (.reg [⟨.lput 10 (some 2) (.c (.agg [.int 0, .int 0])), none⟩, ⟨.lset 10 (some 2) (.t 28), none⟩]) (.block 1 (.seq (.reg [⟨.la 29 10 none 0, none⟩, ⟨.lload 30 10 29 none, none⟩, ⟨.lwhole 31 5 none, none⟩, ⟨.p 32 (.eq false .num) [.t 30, .t 31], none⟩]) (.cond (.t 32) (.seq (.reg [⟨.store none (.t 6) (.c (.bool true)), none⟩, ⟨.store none (.t 7) (.c (.int 0)), none⟩]) .ret) .skip)))))) (.seq (.reg [⟨.store none (.t 6) (.c (.bool false)), none⟩, ⟨.store none (.t 7) (.c (.int 0)), none⟩]) .ret)))))⟩
def F33 : PFunc := ⟨2, [.loc 4 (some 2), .tmp 5], (.seq (.reg [⟨.lput 2 (some 3) (.t 0), none⟩, ⟨.lput 4 (some 2) (.c (.agg [.int 0, .int 0])), none⟩, ⟨.p 5 .mov [.c (.int 0)], none⟩]) (.seq (.reg [⟨.lwhole 9 2 (some 3), none⟩, ⟨.p 10 .mov [.t 1], none⟩, ⟨.call (some 11) false (.c (.fn 117 [] [])) [.t 10], none⟩, ⟨.call (some 12) false (.c (.fn 116 [] [])) [.t 9, .t 11], none⟩, ⟨.p 8 .mov [.t 12], none⟩, ⟨.p 13 (.ext 0) [.t 8], none⟩, ⟨.p 14 (.ext 1) [.t 8], none⟩, ⟨.lput 6 (some 8) (.c (.agg [.int 0, .int 0, .lst [] .exact, .int 0, .int 0, .int 0, .int 0, .int 0])), none⟩, ⟨.lset 6 (some 8) (.t 13), none⟩, ⟨.p 7 .mov [.t 14], none⟩]) (.seq (.seq (.reg [⟨.p 15 .mov [.t 7], none⟩, ⟨.p 16 (.eq true .num) [.t 15, .c (.int 0)], none⟩]) (.cond (.t 16) (.seq (.reg [⟨.p 17 (.build [.int 0, .int 0] []) [], none⟩, ⟨.p 18 .mov [.t 7], none⟩, ⟨.lset 4 (some 2) (.t 17), none⟩, ⟨.p 5 .mov [.t 18], none⟩]) .ret) .skip)) (.seq (.reg [⟨.lwhole 19 6 (some 8), none⟩, ⟨.p 20 .mov [.t 1], none⟩, ⟨.call (some 21) false (.c (.fn 123 [] [])) [], none⟩, ⟨.call (some 22) false (.c (.fn 122 [] [])) [.t 19, .t 20, .t 21], none⟩, ⟨.lset 4 (some 2) (.t 22), none⟩, ⟨.p 5 .mov [.c (.int 0)], none⟩]) .ret))))⟩
def F35 : PFunc := ⟨2, [.loc 4 (some 2), .tmp 5], (.seq (.reg [⟨.lput 2 (some 3) (.t 0), none⟩, ⟨.lput 4 (some 2) (.c (.agg [.int 0, .int 0])), none⟩, ⟨.p 5 .mov [.c (.int 0)], none⟩]) (.seq (.reg [⟨.lwhole 9 2 (some 3), none⟩, ⟨.p 10 .mov [.t 1], none⟩, ⟨.call (some 11) false (.c (.fn 117 [] [])) [.t 10], none⟩, ⟨.call (some 12) false (.c (.fn 116 [] [])) [.t 9, .t 11], none⟩, ⟨.p 8 .mov [.t 12], none⟩, ⟨.p 13 (.ext 0) [.t 8], none⟩, ⟨.p 14 (.ext 1) [.t 8], none⟩, ⟨.lput 6 (some 8) (.c (.agg [.int 0, .int 0, .lst [] .exact, .int 0, .int 0, .int 0, .int 0, .int 0])), none⟩, ⟨.lset 6 (some 8) (.t 13), none⟩, ⟨.p 7 .mov [.t 14], none⟩]) (.seq (.seq (.reg [⟨.p 15 .mov [.t 7], none⟩, ⟨.p 16 (.eq true .num) [.t 15, .c (.int 0)], none⟩]) (.cond (.t 16) (.seq (.reg [⟨.p 17 (.build [.int 0, .int 0] []) [], none⟩, ⟨.p 18 .mov [.t 7], none⟩, ⟨.lset 4 (some 2) (.t 17), none⟩, ⟨.p 5 .mov [.t 18], none⟩]) .ret) .skip)) (.seq (.reg [⟨.lwhole 19 6 (some 8), none⟩, ⟨.p 20 .mov [.t 1], none⟩, ⟨.call (some 21) false (.c (.fn 126 [] [])) [], none⟩, ⟨.call (some 22) false (.c (.fn 122 [] [])) [.t 19, .t 20, .t 21], none⟩, ⟨.lset 4 (some 2) (.t 22), none⟩, ⟨.p 5 .mov [.c (.int 0)], none⟩]) .ret))))⟩
def F37 : PFunc := ⟨0, [.tmp 0], (.seq (.reg [⟨.p 0 .mov [.c (.bool false)], none⟩]) (.seq (.reg [⟨.call (some 16) false (.c (.fn 74 [] [])) [.c (.lst [] .exact)], none⟩, ⟨.call (some 17) false (.c (.fn 33 [] [])) [.t 16, .c (.int 10)], none⟩, ⟨.p 15 .mov [.t 17], none⟩, ⟨.p 18 (.ext 0) [.t 15], none⟩, ⟨.p 19 (.ext 1) [.t 15], none⟩, ⟨.lput 1 (some 2) (.c (.agg [.int 0, .int 0])), none⟩, ⟨.lset 1 (some 2) (.t 18), none⟩, ⟨.p 2 .mov [.t 19], none⟩]) (.seq (.reg [⟨.call (some 21) false (.c (.fn 74 [] [])) [.c (.lst [] .exact)], none⟩, ⟨.call (some 22) false (.c (.fn 35 [] [])) [.t 21, .c (.int 8)], none⟩, ⟨.p 20 .mov [.t 22], none⟩, ⟨.p 23 (.ext 0) [.t 20], none⟩, ⟨.p 24 (.ext 1) [.t 20], none⟩, ⟨.lput 3 (some 2) (.c (.agg [.int 0, .int 0])), none⟩, ⟨.lset 3 (some 2) (.t 23), none⟩, ⟨.p 4 .mov [.t 24], none⟩]) (.seq (.reg [⟨.call (some 26) false (.c (.fn 74 [] [])) [.c (.lst [] .exact)], none⟩, ⟨.call (some 27) false (.c (.fn 31 [] [])) [.t 26, .c (.int 20), .c (.int 50)], none⟩, ⟨.p 25 .mov [.t 27], none⟩, ⟨.p 28 (.ext 0) [.t 25], none⟩, ⟨.p 29 (.ext 1) [.t 25], none⟩, ⟨.p 5 .mov [.t 28], none⟩, ⟨.p 6 .mov [.t 29], none⟩]) (.seq (.reg [⟨.call (some 31) false (.c (.fn 74 [] [])) [.c (.lst [] .exact)], none⟩, ⟨.call (some 32) false (.c (.fn 68 [] [])) [.c (.int 56), .c (.int 60)], none⟩, ⟨.call (some 33) false (.c (.fn 53 [] [])) [.c (.int 0), .c (.int 21), .t 32], none⟩, ⟨.call (some 34) false (.c (.fn 42 [] [])) [.t 31, .t 33], none⟩, ⟨.p 30 .mov [.t 34], none⟩, ⟨.p 35 (.ext 0) [.t 30], none⟩, ⟨.p 36 (.ext 1) [.t 30], none⟩, ⟨.p 7 .mov [.t 35], none⟩, ⟨.p 8 .mov [.t 36], none⟩]) (.seq (.reg [⟨.call (some 38) false (.c (.fn 75 [] [])) [], none⟩, ⟨.call (some 39) false (.c (.fn 44 [] [])) [.t 38], none⟩, ⟨.p 37 .mov [.t 39], none⟩, ⟨.p 40 (.ext 0) [.t 37], none⟩, ⟨.p 41 (.ext 1) [.t 37], none⟩, ⟨.p 9 .mov [.t 40], none⟩, ⟨.p 10 .mov [.t 41], none⟩]) (.seq (.seq (.reg [⟨.p 42 .mov [.t 2], none⟩, ⟨.p 43 (.eq true .num) [.t 42, .c (.int 0)], none⟩, ⟨.p 44 .mov [.t 43], none⟩, ⟨.p 45 .mov [.t 4], some (44, false)⟩, ⟨.p 46 (.eq true .num) [.t 45, .c (.int 0)], some (44, false)⟩, ⟨.p 47 .pick [.t 44, .c (.bool true), .t 46], none⟩, ⟨.p 48 .mov [.t 47], none⟩, ⟨.p 49 .mov [.t 6], some (48, false)⟩, ⟨.p 50 (.eq true .num) [.t 49, .c (.int 0)], some (48, false)⟩, ⟨.p 51 .pick [.t 48, .c (.bool true), .t 50], none⟩, ⟨.p 52 .mov [.t 51], none⟩, ⟨.p 53 .mov [.t 8], some (52, false)⟩, ⟨.p 54 (.eq true .num) [.t 53, .c (.int 0)], some (52, false)⟩, ⟨.p 55 .pick [.t 52, .c (.bool true), .t 54], none⟩, ⟨.p 56 .mov [.t 55], none⟩, ⟨.p 57 .mov [.t 10], some (56, false)⟩, ⟨.p 58 (.eq true .num) [.t 57, .c (.int 0)], some (56, false)⟩, ⟨.p 59 .pick [.t 56, .c (.bool true), .t 58], none⟩, ⟨.p 60 .mov [.t 59], none⟩, ⟨.lwhole 61 1 (some 2), some (60, false)⟩, ⟨.call (some 62) false (.c (.fn 68 [] [])) [.c (.int 66), .c (.int 74)], some (60, false)⟩, ⟨.p 63 (.eq true (.row [true, true])) [.t 61, .t 62], some (60, false)⟩, ⟨.p 64 .pick [.t 60, .c (.bool true), .t 63], none⟩, ⟨.p 65 .mov [.t 64], none⟩, ⟨.lwhole 66 3 (some 2), some (65, false)⟩, ⟨.call (some 67) false (.c (.fn 68 [] [])) [.c (.int 2), .c (.int 3)], some (65, false)⟩, ⟨.p 68 (.eq true (.row [true, true])) [.t 66, .t 67], some (65, false)⟩, ⟨.p 69 .pick [.t 65, .c (.bool true), .t 68], none⟩, ⟨.p 70 .mov [.t 69], none⟩, ⟨.p 71 .mov [.t 5], some (70, false)⟩, ⟨.p 72 .not [.t 71], some (70, false)⟩, ⟨.p 73 .pick [.t 70, .c (.bool true), .t 72], none⟩, ⟨.p 74 .mov [.t 73], none⟩, ⟨.p 75 .mov [.t 7], some (74, false)⟩, ⟨.p 76 .pick [.t 74, .c (.bool true), .t 75], none⟩, ⟨.p 77 .mov [.t 76], none⟩, ⟨.p 78 .mov [.t 9], some (77, false)⟩, ⟨.p 79 (.lit (.int 0) 1 [0] none) [.c (.int 3)], some (77, false)⟩, ⟨.call (some 80) false (.c (.fn 46 [] [])) [.t 78, .t 79], some (77, false)⟩, ⟨.p 81 .not [.t 80], some (77, false)⟩, ⟨.p 82 .pick [.t 77, .c (.bool true), .t 81], none⟩]) (.cond (.t 82) (.seq (.reg [⟨.p 0 .mov [.c (.bool false)], none⟩]) .ret) .skip)) (.seq (.reg [⟨.call (some 84) false (.c (.fn 76 [] [])) [], 
 none⟩, ⟨.call (some 85) false (.c (.fn 38 [] [])) [.t 84], none⟩, ⟨.p 83 .mov [.t 85], none⟩, ⟨.p 86 (.ext 0) [.t 83], none⟩, ⟨.p 87 (.ext 1) [.t 83], none⟩, ⟨.p 11 .mov [.t 86], none⟩, ⟨.p 2 .mov [.t 87], none⟩]) (.seq (.reg [⟨.call (some 89) false (.c (.fn 76 [] [])) [], none⟩, ⟨.call (some 90) false (.c (.fn 40 [] [])) [.t 89], none⟩, ⟨.p 88 .mov [.t 90], none⟩, ⟨.p 91 (.ext 0) [.t 88], none⟩, ⟨.p 92 (.ext 1) [.t 88], none⟩, ⟨.lput 12 (some 2) (.c (.agg [.int 0, .int 0])), none⟩, ⟨.lset 12 (some 2) (.t 91), none⟩, ⟨.p 4 .mov [.t 92], none⟩]) (.seq (.reg [⟨.call (some 94) false (.c (.fn 76 [] [])) [], none⟩, ⟨.call (some 95) false (.c (.fn 33 [] [])) [.t 94, .c (.int 5)], none⟩, ⟨.p 93 .mov [.t 95], none⟩, ⟨.p 96 (.ext 0) [.t 93], none⟩, ⟨.p 97 (.ext 1) [.t 93], none⟩, ⟨.lput 13 (some 2) (.c (.agg [.int 0, .int 0])), none⟩, ⟨.lset 13 (some 2) (.t 96), none⟩, ⟨.p 6 .mov [.t 97], none⟩]) (.seq (.reg [⟨.call (some 99) false (.c (.fn 74 [] [])) [.c (.lst [] .exact)], none⟩, ⟨.call (some 100) false (.c (.fn 27 [] [])) [.t 99], none⟩, ⟨.p 98 .mov [.t 100], none⟩, ⟨.p 101 (.ext 0) [.t 98], none⟩, ⟨.p 102 (.ext 1) [.t 98], none⟩, ⟨.p 14 .mov [.t 101], none⟩, ⟨.p 8 .mov [.t 102], none⟩]) (.seq (.reg [⟨.p 103 .mov [.t 2], none⟩, ⟨.p 104 (.eq false .num) [.t 103, .c (.int 0)], none⟩, ⟨.p 105 .mov [.t 104], none⟩, ⟨.p 106 .mov [.t 4], some (105, true)⟩, ⟨.p 107 (.eq false .num) [.t 106, .c (.int 0)], some (105, true)⟩, ⟨.p 108 .pick [.t 105, .t 107, .c (.bool false)], none⟩, ⟨.p 109 .mov [.t 108], none⟩, ⟨.p 110 .mov [.t 6], some (109, true)⟩, ⟨.p 111 (.eq false .num) [.t 110, .c (.int 0)], some (109, true)⟩, ⟨.p 112 .pick [.t 109, .t 111, .c (.bool false)], none⟩, ⟨.p 113 .mov [.t 112], none⟩, ⟨.p 114 .mov [.t 8], some (113, true)⟩, ⟨.p 115 (.eq false .num) [.t 114, .c (.int 0)], some (113, true)⟩, ⟨.p 116 .pick [.t 113, .t 115, .c (.bool false)], none⟩, ⟨.p 117 .mov [.t 116], none⟩, ⟨.p 118 .mov [.t 11], some (117, true)⟩, ⟨.p 119 (.eq false .num) [.t 118, .c (.int 14)], some (117, true)⟩, ⟨.p 120 .pick [.t 117, .t 119, .c (.bool false)], none⟩, ⟨.p 121 .mov [.t 120], none⟩, ⟨.lwhole 122 12 (some 2), some (121, true)⟩, ⟨.call (some 123) false (.c (.fn 68 [] [])) [.c (.int 20), .c (.int 24)], some (121, true)⟩, ⟨.p 124 (.eq false (.row [true, true])) [.t 122, .t 123], some (121, true)⟩, ⟨.p 125 .pick [.t 121, .t 124, .c (.bool false)], none⟩, ⟨.p 126 .mov [.t 125], none⟩, ⟨.lwhole 127 13 (some 2), some (126, true)⟩, ⟨.call (some 128) false (.c (.fn 68 [] [])) [.c (.int 11), .c (.int 18)], some (126, true)⟩, ⟨.p 129 (.eq false (.row [true, true])) [.t 127, .t 128], some (126, true)⟩, ⟨.p 130 .pick [.t 126, .t 129, .c (.bool false)], none⟩, ⟨.p 131 .mov [.t 130], none⟩, ⟨.p 132 .mov [.t 14], some (131, true)⟩, ⟨.p 133 .pick [.t 131, .t 132, .c (.bool false)], none⟩, ⟨.p 0 .mov [.t 133], none⟩]) .ret))))))))))))⟩
def F38 : PFunc := ⟨1, [.tmp 2, .tmp 3], (.seq (.reg [⟨.lput 1 (some 3) (.t 0), none⟩, ⟨.p 2 .mov [.c (.int 0)], none⟩, ⟨.p 3 .mov [.c (.int 0)], none⟩]) (.seq (.reg [⟨.lwhole 8 1 (some 3), none⟩, ⟨.call (some 9) false (.c (.fn 116 [] [])) [.t 8, .c (.bool true)], none⟩, ⟨.p 7 .mov [.t 9], none⟩, ⟨.p 10 (.ext 0) [.t 7], none⟩, ⟨.p 11 (.ext 1) [.t 7], none⟩, ⟨.lput 4 (some 8) (.c (.agg [.int 0, .int 0, .lst [] .exact, .int 0, .int 0, .int 0, .int 0, .int 0])), none⟩, ⟨.lset 4 (some 8) (.t 10), none⟩, ⟨.p 5 .mov [.t 11], none⟩]) (.seq (.seq (.reg [⟨.p 12 .mov [.t 5], none⟩, ⟨.p 13 (.eq true .num) [.t 12, .c (.int 0)], none⟩]) (.cond (.t 13) (.seq (.reg [⟨.p 14 .mov [.t 5], none⟩, ⟨.p 2 .mov [.c (.int 0)], none⟩, ⟨.p 3 .mov [.t 14], none⟩]) .ret) .skip)) (.seq (.seq (.reg [⟨.p 15 .mov [.c (.int 0)], none⟩]) (.block 0 (.loop (.seq (.reg [⟨.p 16 (.bin .lss) [.t 15, .c (.int 61)], none⟩]) (.seq (.cond (.t 16) .skip (.exit 0)) (.seq (.block 1 (.seq (.reg [⟨.p 17 .mov [.t 15], none⟩, ⟨.p 6 .mov [.t 17], none⟩]) (.seq (.reg [⟨.lwhole 18 4 (some 8), none⟩, ⟨.p 19 .mov [.t 6], none⟩, ⟨.call (some 20) false (.c (.fn 123 [] [])) [], none⟩, ⟨.call (some 21) false (.c (.fn 122 [] [])) [.t 18, .t 19, .t 20], none⟩, ⟨.p 22 (.fld 1 none) [.t 21], none⟩, ⟨.p 23 (.eq false .num) [.t 22, .c (.int 0)], none⟩]) (.cond (.t 23) (.seq (.reg [⟨.p 24 .mov [.t 6], none⟩, ⟨.p 2 .mov [.t 24], none⟩, ⟨.p 3 .mov [.c (.int 0)], none⟩]) .ret) .skip)))) (.reg [⟨.p 25 (.bin .add) [.t 15, .c (.int 1)], none⟩, ⟨.p 15 .mov [.t 25], none⟩]))))))) (.seq (.reg [⟨.p 2 .mov [.c (.int 0)], none⟩, ⟨.p 3 .mov [.c (.int 4)], none⟩]) .ret)))))⟩
def F40 : PFunc := ⟨1, [.loc 2 (some 2), .tmp 3], (.seq (.reg [⟨.lput 1 (some 3) (.t 0), none⟩, ⟨.lput 2 (some 2) (.c (.agg [.int 0, .int 0])), none⟩, ⟨.p 3 .mov [.c (.int 0)], none⟩]) (.seq (.reg [⟨.lwhole 11 1 (some 3), none⟩, ⟨.call (some 12) false (.c (.fn 116 [] [])) [.t 11, .c (.bool true)], none⟩, ⟨.p 10 .mov [.t 12], none⟩, ⟨.p 13 (.ext 0) [.t 10], none⟩, ⟨.p 14 (.ext 1) [.t 10], none⟩, ⟨.lput 4 (some 8) (.c (.agg [.int 0, .int 0, .lst [] .exact, .int 0, .int 0, .int 0, .int 0, .int 0])), none⟩, ⟨.lset 4 (some 8) (.t 13), none⟩, ⟨.p 5 .mov [.t 14], none⟩]) (.seq (.seq (.reg [⟨.p 15 .mov [.t 5], none⟩, ⟨.p 16 (.eq true .num) [.t 15, .c (.int 0)], none⟩]) (.cond (.t 16) (.seq (.reg [⟨.p 17 (.build [.int 0, .int 0] []) [], none⟩, ⟨.p 18 .mov [.t 5], none⟩, ⟨.lset 2 (some 2) (.t 17), none⟩, ⟨.p 3 .mov [.t 18], none⟩]) .ret) .skip)) (.seq (.reg [⟨.lwhole 20 4 (some 8), none⟩, ⟨.call (some 21) false (.c (.fn 129 [] [])) [.t 20], none⟩, ⟨.la 22 1 none 2, none⟩, ⟨.lload 23 1 22 none, none⟩, ⟨.call (some 24) false (.c (.fn 128 [] [])) [.t 21, .c (.int 0), .t 23], none⟩, ⟨.p 19 .mov [.t 24], none⟩, ⟨.p 25 (.ext 0) [.t 19], none⟩, ⟨.p 26 (.ext 1) [.t 19], none⟩, ⟨.p 6 .mov [.t 25], none⟩, ⟨.p 7 .mov [.t 26], none⟩]) (.seq (.reg [⟨.p 8 .mov [.c (.lst [] .exact)], none⟩]) (.seq (.seq (.reg [⟨.p 27 .mov [.t 6], none⟩, ⟨.range 28 (.t 27), none⟩]) (.block 0 (.loop (.seq (.reg [⟨.next 29 (.t 28), none⟩, ⟨.p 30 (.ext 0) [.t 29], none⟩]) (.seq (.cond (.t 30) .skip (.exit 0)) (.block 1 (.seq (.reg [⟨.entry 31 (.t 28), none⟩, ⟨.p 32 (.ext 0) [.t 31], none⟩, ⟨.lput 9 (some 2) (.c (.agg [.int 0, .int 0])), none⟩, ⟨.lset 9 (some 2) (.t 32), none⟩]) (.reg [⟨.p 33 .mov [.t 8], none⟩, ⟨.la 34 9 none 0, none⟩, ⟨.lload 35 9 34 none, none⟩, ⟨.lwhole 36 9 (some 2), none⟩, ⟨.p 37 .mov [.t 7], none⟩, ⟨.p 38 (.bin .sub) [.c (.int 60), .t 37], none⟩, ⟨.call (some 39) false (.c (.fn 130 [] [])) [.t 36, .t 38], none⟩, ⟨.p 40 (.fld 0 none) [.t 39], none⟩, ⟨.p 41 (.bin .sub) [.t 35, .t 40], none⟩, ⟨.p 42 (.lit (.int 0) 1 [0] none) [.t 41], none⟩, ⟨.append 43 1 (.int 0) false (.t 33) (.t 42), none⟩, ⟨.p 8 .mov [.t 43], none⟩])))))))) (.seq (.reg [⟨.p 44 .mov [.t 8], none⟩, ⟨.call (some 45) false (.c (.fn 131 [] [])) [.t 44], none⟩, ⟨.lset 2 (some 2) (.t 45), none⟩, ⟨.p 3 .mov [.c (.int 0)], none⟩]) .ret)))))))⟩
def F42 : PFunc := ⟨2, [.tmp 4, .tmp 5], (.seq (.reg [⟨.lput 2 (some 3) (.t 0), none⟩, ⟨.lput 3 (some 4) (.t 1), none⟩, ⟨.p 4 .mov [.c (.bool false)], none⟩, ⟨.p 5 .mov [.c (.int 0)], none⟩]) (.seq (.seq (.reg [⟨.lwhole 9 2 (some 3), none⟩, ⟨.call (some 10) false (.c (.fn 29 [] [])) [.t 9], none⟩, ⟨.p 6 .mov [.t 10], none⟩]) (.seq (.reg [⟨.p 11 .mov [.t 6], none⟩, ⟨.p 12 (.eq true .num) [.t 11, .c (.int 0)], none⟩]) (.cond (.t 12) (.seq (.reg [⟨.p 13 .mov [.t 6], none⟩, ⟨.p 4 .mov [.c (.bool false)], none⟩, ⟨.p 5 .mov [.t 13], none⟩]) .ret) .skip))) (.seq (.seq (.reg [⟨.lwhole 14 3 (some 4), none⟩, ⟨.call (some 15) false (.c (.fn 114 [] [])) [.t 14], none⟩, ⟨.p 16 .not [.t 15], none⟩]) (.cond (.t 16) (.seq (.reg [⟨.p 4 .mov [.c (.bool false)], none⟩, ⟨.p 5 .mov [.c (.int 31)], none⟩]) .ret) .skip)) (.seq (.reg [⟨.p 7 .mov [.c (.int 0)], none⟩]) (.seq (.block 0 (.loop (.seq (.seq (.reg [⟨.p 17 .mov [.t 7], none⟩, ⟨.la 18 2 none 2, none⟩, ⟨.lload 19 2 18 none, none⟩, ⟨.p 20 .len [.t 19], none⟩, ⟨.p 21 (.bin .lss) [.t 17, .t 20], none⟩, ⟨.p 22 .mov [.t 21], none⟩, ⟨.la 23 2 none 2, some (22, true)⟩, ⟨.lload 24 2 23 none, some (22, true)⟩, ⟨.p 25 .mov [.t 7], some (22, true)⟩, ⟨.p 26 (.ea 4) [.t 24, .t 25], some (22, true)⟩, ⟨.p 27 (.fa 1) [.t 26], some (22, true)⟩, ⟨.p 28 (.eload none) [.t 27], some (22, true)⟩, ⟨.la 29 3 none 1, some (22, true)⟩, ⟨.lload 30 3 29 none, some (22, true)⟩, ⟨.p 31 (.bin .leq) [.t 28, .t 30], some (22, true)⟩, ⟨.p 32 .pick [.t 22, .t 31, .c (.bool false)], none⟩]) (.cond (.t 32) .skip (.exit 0))) (.block 1 (.reg [⟨.p 33 .mov [.t 7], none⟩, ⟨.p 34 (.bin .add) [.t 33, .c (.int 1)], none⟩, ⟨.p 7 .mov [.t 34], none⟩]))))) (.seq (.reg [⟨.lwhole 35 2 (some 3), none⟩, ⟨.lput 8 (some 3) (.c (.agg [.int 0, .int 0, .lst [] .exact])), none⟩, ⟨.lset 8 (some 3) (.t 35), none⟩]) (.seq (.seq (.reg []) (.seq (.reg [⟨.la 36 2 none 2, none⟩, ⟨.lload 37 2 36 none, none⟩, ⟨.call (some 38) false (.c (.fn 136 [] [])) [.t 37], none⟩, ⟨.p 39 .mov [.t 7], none⟩, ⟨.lwhole 40 3 (some 4), none⟩, ⟨.p 41 (.lit (.agg [.int 0, .int 0, .int 0, .int 0]) 1 [0] (some 4)) [.t 40], none⟩, ⟨.call (some 42) false (.c (.fn 135 [] [])) [.t 38, .t 39, .t 41], none⟩, ⟨.la 43 8 none 2, none⟩, ⟨.lstore 8 43 none (.t 42), none⟩]) (.reg [⟨.lfrz 8 2 4 (some 4), none⟩]))) (.seq (.reg [⟨.lwhole 44 8 (some 3), none⟩, ⟨.call (some 45) false (.c (.fn 110 [] [])) [.t 44], none⟩, ⟨.call (some 46) false (.c (.fn 111 [] [])) [.t 45], none⟩, ⟨.p 4 .mov [.t 46], none⟩, ⟨.p 5 .mov [.c (.int 0)], none⟩]) .ret))))))))⟩
def F44 : PFunc := ⟨1, [.tmp 2, .tmp 3], (.seq (.reg [⟨.rbox 1 (some 3) (.t 0), none⟩, ⟨.p 2 .mov [.c (.lst [] .exact)], none⟩, ⟨.p 3 .mov [.c (.int 0)], none⟩]) (.seq (.seq (.reg [⟨.p 9 (.eload (some 3)) [.t 1], none⟩, ⟨.call (some 10) false (.c (.fn 29 [] [])) [.t 9], none⟩, ⟨.p 4 .mov [.t 10], none⟩]) (.seq (.reg [⟨.p 11 .mov [.t 4], none⟩, ⟨.p 12 (.eq true .num) [.t 11, .c (.int 0)], none⟩]) (.cond (.t 12) (.seq (.reg [⟨.p 13 .mov [.t 4], none⟩, ⟨.p 2 .mov [.c (.lst [] .exact)], none⟩, ⟨.p 3 .mov [.t 13], none⟩]) .ret) .skip))) (.seq (.reg [⟨.hbox 5 none (.c (.nilfn)), none⟩]) (.seq (.reg [⟨.p 14 (.mkfn 138 0) [.t 1, .t 5], none⟩, ⟨.store none (.t 5) (.t 14), none⟩]) (.seq (.seq (.reg [⟨.p 15 (.fa 2) [.t 1], none⟩, ⟨.p 16 (.eload none) [.t 15], none⟩, ⟨.p 17 .len [.t 16], none⟩, ⟨.p 18 (.bin .add) [.t 17, .c (.int 1)], none⟩, ⟨.p 19 .mov [.c (.int 0)], none⟩]) (.block 0 (.loop (.seq (.reg [⟨.p 20 (.bin .lss) [.t 19, .t 18], none⟩]) (.seq (.cond (.t 20) .skip (.exit 0)) (.seq (.block 1 (.seq (.reg [⟨.p 21 .mov [.t 19], none⟩, ⟨.p 6 .mov [.t 21], none⟩]) (.seq (.reg [⟨.load 23 none (.t 5), none⟩, ⟨.p 24 .mov [.t 6], none⟩, ⟨.call (some 25) false (.t 23) [.c (.lst [] .exact), .t 24], none⟩, ⟨.p 22 .mov [.t 25], none⟩, ⟨.p 26 (.ext 0) [.t 22], none⟩, ⟨.p 27 (.ext 1) [.t 22], none⟩, ⟨.p 7 .mov [.t 26], none⟩, ⟨.p 8 .mov [.t 27], none⟩]) (.seq (.reg [⟨.p 28 .mov [.t 8], none⟩]) (.cond (.t 28) (.seq (.reg [⟨.p 29 .mov [.t 7], none⟩, ⟨.p 30 .mov [.t 7], none⟩, ⟨.p 31 .len [.t 30], none⟩, ⟨.p 32 .mov [.t 7], none⟩, ⟨.p 33 .len [.t 32], none⟩, ⟨.p 34 (.slc 1 false true true) [.t 29, .t 31, .t 33], none⟩, ⟨.p 2 .mov [.t 34], none⟩, ⟨.p 3 .mov [.c (.int 0)], none⟩]) .ret) .skip))))) (.reg [⟨.p 35 (.bin .add) [.t 19, .c (.int 1)], none⟩, ⟨.p 19 .mov [.t 35], none⟩]))))))) (.seq (.reg [⟨.p 2 .mov [.c (.lst [] .exact)], none⟩, ⟨.p 3 .mov [.c (.int 0)], none⟩]) .ret))))))⟩
def F46 : PFunc := ⟨2, [.tmp 4], (.seq (.reg [⟨.p 4 .mov [.c (.bool false)], none⟩]) (.seq (.reg [⟨.p 7 .mov [.t 0], none⟩, ⟨.p 8 .len [.t 7], none⟩, ⟨.p 9 .mov [.t 1], none⟩, ⟨.p 10 .len [.t 9], none⟩, ⟨.p 11 (.eq false .num) [.t 8, .t 10], none⟩, ⟨.p 5 .mov [.t 11], none⟩]) (.seq (.seq (.reg [⟨.p 6 .mov [.c (.int 0)], none⟩]) (.block 0 (.loop (.seq (.seq (.reg [⟨.p 12 .mov [.t 5], none⟩, ⟨.p 13 .mov [.t 12], none⟩, ⟨.p 14 .mov [.t 6], some (13, true)⟩, ⟨.p 15 .mov [.t 0], some (13, true)⟩, ⟨.p 16 .len [.t 15], some (13, true)⟩, ⟨.p 17 (.bin .lss) [.t 14, .t 16], some (13, true)⟩, ⟨.p 18 .pick [.t 13, .t 17, .c (.bool false)], none⟩]) (.cond (.t 18) .skip (.exit 0))) (.seq (.block 1 (.reg [⟨.p 21 .mov [.t 0], none⟩, ⟨.p 22 .mov [.t 6], none⟩, ⟨.p 23 (.ea 1) [.t 21, .t 22], none⟩, ⟨.p 24 (.eload none) [.t 23], none⟩, ⟨.p 25 .mov [.t 1], none⟩, ⟨.p 26 .mov [.t 6], none⟩, ⟨.p 27 (.ea 1) [.t 25, .t 26], none⟩, ⟨.p 28 (.eload none) [.t 27], none⟩, ⟨.p 29 (.eq false .num) [.t 24, .t 28], none⟩, ⟨.p 5 .mov [.t 29], none⟩])) (.reg [⟨.p 19 .mov [.t 6], none⟩, ⟨.p 20 (.bin .add) [.t 19, .c (.int 1)], none⟩, ⟨.p 6 .mov [.t 20], none⟩])))))) (.seq (.reg [⟨.p 30 .mov [.t 5], none⟩, ⟨.p 4 .mov [.t 30], none⟩]) .ret))))⟩
def F47 : PFunc := ⟨1, [.tmp 2], (.seq (.reg [⟨.lput 1 (some 3) (.t 0), none⟩, ⟨.p 2 .mov [.c (.bool false)], none⟩]) (.seq (.reg [⟨.lwhole 7 1 (some 3), none⟩, ⟨.call (some 8) false (.c (.fn 29 [] [])) [.t 7], none⟩, ⟨.p 9 (.eq false .num) [.t 8, .c (.int 0)], none⟩, ⟨.p 10 .mov [.t 9], none⟩, ⟨.la 11 1 none 0, some (10, true)⟩, ⟨.lload 12 1 11 (some 2), some (10, true)⟩, ⟨.call (some 13) false (.c (.fn 54 [] [])) [.t 12, .c (.int 0), .c (.int 400)], some (10, true)⟩, ⟨.p 14 .pick [.t 10, .t 13, .c (.bool false)], none⟩, ⟨.p 15 .mov [.t 14], none⟩, ⟨.la 16 1 none 2, some (15, true)⟩, ⟨.lload 17 1 16 none, some (15, true)⟩, ⟨.p 18 .len [.t 17], some (15, true)⟩, ⟨.p 19 (.bin .leq) [.t 18, .c (.int 8)], some (15, true)⟩, ⟨.p 20 .pick [.t 15, .t 19, .c (.bool false)], none⟩, ⟨.p 3 .mov [.t 20], none⟩]) (.seq (.reg [⟨.p 4 .mov [.c (.int 0)], none⟩]) (.seq (.seq (.reg [⟨.p 5 .mov [.c (.int 0)], none⟩]) (.block 0 (.loop (.seq (.seq (.reg [⟨.p 21 .mov [.t 3], none⟩, ⟨.p 22 .mov [.t 21], none⟩, ⟨.p 23 .mov [.t 5], some (22, true)⟩, ⟨.la 24 1 none 2, some (22, true)⟩, ⟨.lload 25 1 24 none, some (22, true)⟩, ⟨.p 26 .len [.t 25], some (22, true)⟩, ⟨.p 27 (.bin .lss) [.t 23, .t 26], some (22, true)⟩, ⟨.p 28 .pick [.t 22, .t 27, .c (.bool false)], none⟩]) (.cond (.t 28) .skip (.exit 0))) (.seq (.block 1 (.seq (.reg [⟨.la 31 1 none 2, none⟩, ⟨.lload 32 1 31 none, none⟩, ⟨.p 33 .mov [.t 5], none⟩, ⟨.p 34 (.ea 4) [.t 32, .t 33], none⟩, ⟨.p 35 (.eload (some 4)) [.t 34], none⟩, ⟨.lput 6 (some 4) (.c (.agg [.int 0, .int 0, .int 0, .int 0])), none⟩, ⟨.lset 6 (some 4) (.t 35), none⟩]) (.seq (.reg [⟨.la 36 6 none 0, none⟩, ⟨.lload 37 6 36 none, none⟩, ⟨.call (some 38) false (.c (.fn 51 [] [])) [.t 37, .c (.int 0), .c (.int 4)], none⟩, ⟨.p 39 .mov [.t 38], none⟩, ⟨.la 40 6 none 1, some (39, true)⟩, ⟨.lload 41 6 40 none, some (39, true)⟩, ⟨.p 42 .mov [.t 4], some (39, true)⟩, ⟨.call (some 43) false (.c (.fn 51 [] [])) [.t 41, .t 42, .c (.int 60)], some (39, true)⟩, ⟨.p 44 .pick [.t 39, .t 43, .c (.bool false)], none⟩, ⟨.p 45 .mov [.t 44], none⟩, ⟨.la 46 6 none 2, some (45, true)⟩, ⟨.lload 47 6 46 (some 2), some (45, true)⟩, ⟨.call (some 48) false (.c (.fn 54 [] [])) [.t 47, .c (.int 0), .c (.int 400)], some (45, true)⟩, ⟨.p 49 .pick [.t 45, .t 48, .c (.bool false)], none⟩, ⟨.p 3 .mov [.t 49], none⟩]) (.reg [⟨.la 50 6 none 1, none⟩, ⟨.lload 51 6 50 none, none⟩, ⟨.p 4 .mov [.t 51], none⟩])))) (.reg [⟨.p 29 .mov [.t 5], none⟩, ⟨.p 30 (.bin .add) [.t 29, .c (.int 1)], none⟩, ⟨.p 5 .mov [.t 30], none⟩])))))) (.seq (.reg [⟨.p 52 .mov [.t 3], none⟩, ⟨.p 2 .mov [.t 52], none⟩]) .ret)))))⟩
def F48 : PFunc := ⟨2, [.loc 4 (some 3), .loc 5 (some 2)], (.seq (.reg [⟨.lput 2 (some 3) (.t 0), none⟩, ⟨.lput 4 (some 3) (.c (.agg [.int 0, .int 0, .lst [] .exact])), none⟩, ⟨.lput 5 (some 2) (.c (.agg [.lst [] .exact, .lst [] .exact])), none⟩]) (.seq (.reg [⟨.lwhole 15 2 (some 3), none⟩, ⟨.p 16 (.build [.lst [] .exact, .lst [] .exact] []) [], none⟩, ⟨.lput 6 (some 3) (.c (.agg [.int 0, .int 0, .lst [] .exact])), none⟩, ⟨.lput 7 (some 2) (.c (.agg [.lst [] .exact, .lst [] .exact])), none⟩, ⟨.lset 6 (some 3) (.t 15), none⟩, ⟨.lset 7 (some 2) (.t 16), none⟩]) (.seq (.reg [⟨.la 17 6 none 2, none⟩, ⟨.lstore 6 17 none (.c (.lst [] .exact)), none⟩]) (.seq (.reg [⟨.la 18 2 none 0, none⟩, ⟨.lload 19 2 18 (some 2), none⟩, ⟨.p 20 .mov [.t 1], none⟩, ⟨.call (some 21) false (.c (.fn 141 [] [])) [.t 20, .c (.int 0)], none⟩, ⟨.call (some 22) false (.c (.fn 104 [] [])) [.t 19, .t 21], none⟩, ⟨.p 8 .mov [.t 22], none⟩, ⟨.p 9 .mov [.c (.int 0)], none⟩, ⟨.p 10 .mov [.c (.int 0)], none⟩]) (.seq (.seq (.reg [⟨.p 11 .mov [.c (.int 0)], none⟩]) (.block 0 (.loop (.seq (.seq (.reg [⟨.p 23 .mov [.t 11], none⟩, ⟨.p 24 (.bin .leq) [.t 23, .c (.int 60)], none⟩]) (.cond (.t 24) .skip (.exit 0))) (.seq (.block 1 (.seq (.seq (.reg [⟨.p 27 .mov [.t 11], none⟩, ⟨.p 28 (.bin .gtr) [.t 27, .c (.int 0)], none⟩]) (.cond (.t 28) (.reg [⟨.p 29 .mov [.t 8], none⟩, ⟨.p 30 .mov [.t 9], none⟩, ⟨.p 31 (.bin .sub) [.t 29, .t 30], none⟩, ⟨.p 32 .max [.c (.int 0), .t 31], none⟩, ⟨.p 8 .mov [.t 32], none⟩]) .skip)) (.seq (.block 2 (.loop (.seq (.seq (.reg [⟨.p 33 .mov [.t 10], none⟩, ⟨.la 34 2 none 2, none⟩, ⟨.lload 35 2 34 none, none⟩, ⟨.p 36 .len [.t 35], none⟩, ⟨.p 37 (.bin .lss) [.t 33, .t 36], none⟩, ⟨.p 38 .mov [.t 37], none⟩, ⟨.la 39 2 none 2, some (38, true)⟩, ⟨.lload 40 2 39 none, some (38, true)⟩, ⟨.p 41 .mov [.t 10], some (38, true)⟩, ⟨.p 42 (.ea 4) [.t 40, .t 41], some (38, true)⟩, ⟨.p 43 (.fa 1) [.t 42], some (38, true)⟩, ⟨.p 44 (.eload none) [.t 43], some (38, true)⟩, ⟨.p 45 .mov [.t 11], some (38, true)⟩, ⟨.p 46 (.eq false .num) [.t 44, .t 45], some (38, true)⟩, ⟨.p 47 .pick [.t 38, .t 46, .c (.bool false)], none⟩]) (.cond (.t 47) .skip (.exit 2))) (.block 3 (.seq (.reg [⟨.la 48 2 none 2, none⟩, ⟨.lload 49 2 48 none, none⟩, ⟨.p 50 .mov [.t 10], none⟩, ⟨.p 51 (.ea 4) [.t 49, .t 50], none⟩, ⟨.p 52 (.eload (some 4)) [.t 51], none⟩, ⟨.lput 12 (some 4) (.c (.agg [.int 0, .int 0, .int 0, .int 0])), none⟩, ⟨.lset 12 (some 4) (.t 52), none⟩]) (.seq (.reg [⟨.la 53 12 none 2, none⟩, ⟨.lload 54 12 53 (some 2), none⟩, ⟨.p 55 .mov [.t 1], none⟩, ⟨.p 56 .mov [.t 10], none⟩, ⟨.p 57 (.bin .add) [.t 56, .c (.int 1)], none⟩, ⟨.call (some 58) false (.c (.fn 141 [] [])) [.t 55, .t 57], none⟩, ⟨.call (some 59) false (.c (.fn 104 [] [])) [.t 54, .t 58], none⟩, ⟨.p 13 .mov [.t 59], none⟩]) (.seq (.seq (.reg [⟨.la 60 12 none 0, none⟩, ⟨.lload 61 12 60 none, none⟩]) (.block 4 (.seq (.reg [⟨.p 81 (.eq false .num) [.t 61, .c (.int 0)], none⟩, ⟨.p 80 .mov [.t 81], none⟩]) (.cond (.t 80) (.seq (.seq (.reg [⟨.p 82 .mov [.t 13], none⟩, ⟨.p 83 .mov [.t 8], none⟩, ⟨.p 84 (.bin .gtr) [.t 82, .t 83], none⟩]) (.cond (.t 84) (.reg [⟨.p 85 .mov [.t 8], none⟩, ⟨.p 86 .mov [.t 8], none⟩, ⟨.call (some 87) false (.c (.fn 52 [] [])) [.t 86], none⟩, ⟨.p 13 .mov [.t 85], none⟩, ⟨.la 88 12 none 2, none⟩, ⟨.lstore 12 88 (some 2) (.t 87), none⟩]) .skip)) (.reg [⟨.p 89 .mov [.t 8], none⟩, ⟨.p 90 .mov [.t 13], none⟩, ⟨.p 91 (.bin .sub) [.t 89, .t 90], none⟩, ⟨.p 8 .mov [.t 91], none⟩])) (.seq (.reg [⟨.p 93 (.eq false .num) [.t 61, .c (.int 1)], none⟩, ⟨.p 92 .mov [.t 93], none⟩]) (.cond (.t 92) (.reg [⟨.p 94 .mov [.t 9], none⟩, ⟨.p 95 .mov [.t 13], none⟩, ⟨.p 96 (.bin .add) [.t 94, .t 95], none⟩, ⟨.p 9 .mov [.t 96], none⟩]) (.seq (.reg [⟨.p 98 (.eq false .num) [.t 61, .c (.int 2)], none⟩, ⟨.p 97 .mov [.t 98], none⟩]) (.cond (.t 97) (.reg [⟨.p 9 .mov [.c (.int 0)], none⟩]) (.seq (.reg [⟨.p 100 (.eq false .num) [.t 61, .c (.int 3)], none⟩, ⟨.p 99 .mov [.t 100], none⟩]) (.cond (.t 99) (.reg [⟨.p 101 .mov [.t 8], 
 none⟩, ⟨.p 102 .mov [.t 13], none⟩, ⟨.p 103 (.bin .sub) [.t 101, .t 102], none⟩, ⟨.p 104 .max [.c (.int 0), .t 103], none⟩, ⟨.p 8 .mov [.t 104], none⟩]) (.seq (.reg [⟨.la 62 12 none 2, none⟩, ⟨.la 63 12 (some 62) 1, none⟩, ⟨.lload 64 12 63 none, none⟩, ⟨.la 65 12 none 2, none⟩, ⟨.la 66 12 (some 65) 0, none⟩, ⟨.lload 67 12 66 none, none⟩, ⟨.p 68 (.bin .sub) [.t 64, .t 67], none⟩, ⟨.p 69 (.bin .quo) [.t 68, .c (.int 2)], none⟩, ⟨.p 14 .mov [.t 69], none⟩]) (.reg [⟨.p 70 .mov [.t 8], none⟩, ⟨.p 71 .mov [.t 14], none⟩, ⟨.p 72 (.bin .sub) [.t 70, .t 71], none⟩, ⟨.p 73 .max [.c (.int 0), .t 72], none⟩, ⟨.p 74 .mov [.t 8], none⟩, ⟨.p 75 .mov [.t 14], none⟩, ⟨.p 76 (.bin .add) [.t 74, .t 75], none⟩, ⟨.p 77 .min [.c (.int 400), .t 76], none⟩, ⟨.call (some 78) false (.c (.fn 68 [] [])) [.t 73, .t 77], none⟩, ⟨.la 79 12 none 2, none⟩, ⟨.lstore 12 79 (some 2) (.t 78), none⟩])))))))))))) (.seq (.reg [⟨.la 105 6 none 2, none⟩, ⟨.lload 106 6 105 none, none⟩, ⟨.lwhole 107 12 (some 4), none⟩, ⟨.p 108 (.lit (.agg [.int 0, .int 0, .int 0, .int 0]) 1 [0] (some 4)) [.t 107], none⟩, ⟨.append 109 4 (.agg [.int 0, .int 0, .int 0, .int 0]) false (.t 106) (.t 108), none⟩, ⟨.la 110 6 none 2, none⟩, ⟨.lstore 6 110 none (.t 109), none⟩]) (.reg [⟨.p 111 .mov [.t 10], none⟩, ⟨.p 112 (.bin .add) [.t 111, .c (.int 1)], none⟩, ⟨.p 10 .mov [.t 112], none⟩]))))))))) (.reg [⟨.la 113 7 none 0, none⟩, ⟨.lload 114 7 113 none, none⟩, ⟨.p 115 .mov [.t 8], none⟩, ⟨.p 116 (.lit (.int 0) 1 [0] none) [.t 115], none⟩, ⟨.append 117 1 (.int 0) false (.t 114) (.t 116), none⟩, ⟨.la 118 7 none 1, none⟩, ⟨.lload 119 7 118 none, none⟩, ⟨.p 120 .mov [.t 9], none⟩, ⟨.p 121 (.lit (.int 0) 1 [0] none) [.t 120], none⟩, ⟨.append 122 1 (.int 0) false (.t 119) (.t 121), none⟩, ⟨.la 123 7 none 0, none⟩, ⟨.lstore 7 123 none (.t 117), none⟩, ⟨.la 124 7 none 1, none⟩, ⟨.lstore 7 124 none (.t 122), none⟩])))) (.reg [⟨.p 25 .mov [.t 11], none⟩, ⟨.p 26 (.bin .add) [.t 25, .c (.int 1)], none⟩, ⟨.p 11 .mov [.t 26], none⟩])))))) (.seq (.reg [⟨.lwhole 125 6 (some 3), none⟩, ⟨.lwhole 126 7 (some 2), none⟩, ⟨.lset 4 (some 3) (.t 125), none⟩, ⟨.lset 5 (some 2) (.t 126), none⟩]) .ret))))))⟩
def F49 : PFunc := ⟨2, [.tmp 4], (.seq (.reg [⟨.lput 2 (some 2) (.t 0), none⟩, ⟨.p 4 .mov [.c (.bool false)], none⟩]) (.seq (.reg [⟨.la 5 2 none 0, none⟩, ⟨.lload 6 2 5 none, none⟩, ⟨.p 7 .mov [.t 1], none⟩, ⟨.p 8 (.bin .leq) [.t 6, .t 7], none⟩, ⟨.p 9 .mov [.t 8], none⟩, ⟨.p 10 .mov [.t 1], some (9, true)⟩, ⟨.la 11 2 none 1, some (9, true)⟩, ⟨.lload 12 2 11 none, some (9, true)⟩, ⟨.p 13 (.bin .leq) [.t 10, .t 12], some (9, true)⟩, ⟨.p 14 .pick [.t 9, .t 13, .c (.bool false)], none⟩, ⟨.p 4 .mov [.t 14], none⟩]) .ret))⟩
def F50 : PFunc := ⟨2, [.tmp 4], (.seq (.reg [⟨.p 4 .mov [.c (.int 0)], none⟩]) (.seq (.seq (.reg [⟨.p 6 .mov [.t 1], none⟩, ⟨.p 7 (.bin .lss) [.t 6, .c (.int 2)], none⟩]) (.cond (.t 7) (.seq (.reg [⟨.p 4 .mov [.c (.int 0)], none⟩]) .ret) .skip)) (.seq (.reg [⟨.p 8 .mov [.t 0], none⟩, ⟨.p 9 .mov [.t 1], none⟩, ⟨.p 10 (.bin .rem) [.t 8, .t 9], none⟩, ⟨.p 5 .mov [.t 10], none⟩]) (.seq (.seq (.reg [⟨.p 11 .mov [.t 5], none⟩, ⟨.p 12 (.bin .lss) [.t 11, .c (.int 0)], none⟩]) (.cond (.t 12) (.seq (.reg [⟨.p 13 .mov [.t 5], none⟩, ⟨.p 14 .mov [.t 1], none⟩, ⟨.p 15 (.bin .add) [.t 13, .t 14], none⟩, ⟨.p 4 .mov [.t 15], none⟩]) .ret) .skip)) (.seq (.reg [⟨.p 16 .mov [.t 5], none⟩, ⟨.p 4 .mov [.t 16], none⟩]) .ret)))))⟩
def F51 : PFunc := ⟨3, [.tmp 6], (.seq (.reg [⟨.p 6 .mov [.c (.bool false)], none⟩]) (.seq (.reg [⟨.p 7 .mov [.t 0], none⟩, ⟨.p 8 .mov [.t 1], none⟩, ⟨.p 9 (.bin .geq) [.t 7, .t 8], none⟩, ⟨.p 10 .mov [.t 9], none⟩, ⟨.p 11 .mov [.t 0], some (10, true)⟩, ⟨.p 12 .mov [.t 2], some (10, true)⟩, ⟨.p 13 (.bin .leq) [.t 11, .t 12], some (10, true)⟩, ⟨.p 14 .pick [.t 10, .t 13, .c (.bool false)], none⟩, ⟨.p 6 .mov [.t 14], none⟩]) .ret))⟩
def F52 : PFunc := ⟨1, [.loc 2 (some 2)], (.seq (.reg [⟨.lput 2 (some 2) (.c (.agg [.int 0, .int 0])), none⟩]) (.seq (.reg [⟨.p 3 .mov [.t 0], none⟩, ⟨.p 4 .mov [.t 0], none⟩, ⟨.p 5 (.build [.int 0, .int 0] [(0, 1), (1, 1)]) [.t 3, .t 4], none⟩, ⟨.lset 2 (some 2) (.t 5), none⟩]) .ret))⟩
def F53 : PFunc := ⟨3, [.loc 6 (some 4)], (.seq (.reg [⟨.lput 5 (some 2) (.t 2), none⟩, ⟨.lput 6 (some 4) (.c (.agg [.int 0, .int 0, .int 0, .int 0])), none⟩]) (.seq (.reg [⟨.p 7 .mov [.t 0], none⟩, ⟨.p 8 .mov [.t 1], none⟩, ⟨.lwhole 9 5 (some 2), none⟩, ⟨.p 10 (.build [.int 0, .int 0, .int 0, .int 0] [(0, 1), (1, 1), (2, 2)]) [.t 7, .t 8, .t 9], none⟩, ⟨.lset 6 (some 4) (.t 10), none⟩]) .ret))⟩
def F54 : PFunc := ⟨3, [.tmp 6], (.seq (.reg [⟨.lput 3 (some 2) (.t 0), none⟩, ⟨.p 6 .mov [.c (.bool false)], none⟩]) (.seq (.reg [⟨.la 7 3 none 0, none⟩, ⟨.lload 8 3 7 none, none⟩, ⟨.p 9 .mov [.t 1], none⟩, ⟨.p 10 (.bin .geq) [.t 8, .t 9], none⟩, ⟨.p 11 .mov [.t 10], none⟩, ⟨.la 12 3 none 1, some (11, true)⟩, ⟨.lload 13 3 12 none, some (11, true)⟩, ⟨.p 14 .mov [.t 2], some (11, true)⟩, ⟨.p 15 (.bin .leq) [.t 13, .t 14], some (11, true)⟩, ⟨.p 16 .pick [.t 11, .t 15, .c (.bool false)], none⟩, ⟨.p 17 .mov [.t 16], none⟩, ⟨.la 18 3 none 0, some (17, true)⟩, ⟨.lload 19 3 18 none, some (17, true)⟩, ⟨.la 20 3 none 1, some (17, true)⟩, ⟨.lload 21 3 20 none, some (17, true)⟩, ⟨.p 22 (.bin .leq) [.t 19, .t 21], some (17, true)⟩, ⟨.p 23 .pick [.t 17, .t 22, .c (.bool false)], none⟩, ⟨.p 6 .mov [.t 23], none⟩]) .ret))⟩
def F68 : PFunc := ⟨2, [.loc 4 (some 2)], (.seq (.reg [⟨.lput 4 (some 2) (.c (.agg [.int 0, .int 0])), none⟩]) (.seq (.reg [⟨.p 5 .mov [.t 0], none⟩, ⟨.p 6 .mov [.t 1], none⟩, ⟨.p 7 (.build [.int 0, .int 0] [(0, 1), (1, 1)]) [.t 5, .t 6], none⟩, ⟨.lset 4 (some 2) (.t 7), none⟩]) .ret))⟩
def F72 : PFunc := ⟨2, [.tmp 4], (.seq (.reg [⟨.p 4 .mov [.c (.lst [] .exact)], none⟩]) (.seq (.reg [⟨.p 7 (.lit (.int 0) 0 [] none) [], none⟩, ⟨.p 5 .mov [.t 7], none⟩]) (.seq (.seq (.reg [⟨.p 6 .mov [.c (.int 0)], none⟩]) (.block 0 (.loop (.seq (.seq (.reg [⟨.p 8 .mov [.t 6], none⟩, ⟨.p 9 .mov [.t 1], none⟩, ⟨.p 10 (.bin .lss) [.t 8, .t 9], none⟩]) (.cond (.t 10) .skip (.exit 0))) (.seq (.block 1 (.seq (.reg [⟨.p 13 .mov [.t 0], none⟩, ⟨.p 14 .mov [.t 6], none⟩, ⟨.call (some 15) false (.c (.fn 101 [] [])) [.t 13, .t 14], none⟩]) (.cond (.t 15) (.reg [⟨.p 16 .mov [.t 5], none⟩, ⟨.p 17 .mov [.t 6], none⟩, ⟨.p 18 (.lit (.int 0) 1 [0] none) [.t 17], none⟩, ⟨.append 19 1 (.int 0) false (.t 16) (.t 18), none⟩, ⟨.p 5 .mov [.t 19], none⟩]) .skip))) (.reg [⟨.p 11 .mov [.t 6], none⟩, ⟨.p 12 (.bin .add) [.t 11, .c (.int 1)], none⟩, ⟨.p 6 .mov [.t 12], none⟩])))))) (.seq (.reg [⟨.p 20 .mov [.t 5], none⟩, ⟨.p 4 .mov [.t 20], none⟩]) .ret))))⟩
def F73 : PFunc := ⟨2, [.tmp 4], (.seq (.reg [⟨.p 4 .mov [.c (.bool false)], none⟩]) (.seq (.reg [⟨.p 5 .mov [.t 0], none⟩, ⟨.p 6 .len [.t 5], none⟩, ⟨.p 7 .mov [.t 1], none⟩, ⟨.p 8 .len [.t 7], none⟩, ⟨.p 9 (.bin .lss) [.t 6, .t 8], none⟩, ⟨.p 10 .mov [.t 9], none⟩, ⟨.p 11 .mov [.t 0], some (10, false)⟩, ⟨.p 12 .len [.t 11], some (10, false)⟩, ⟨.p 13 .mov [.t 1], some (10, false)⟩, ⟨.p 14 .len [.t 13], some (10, false)⟩, ⟨.p 15 (.eq false .num) [.t 12, .t 14], some (10, false)⟩, ⟨.p 16 .mov [.t 15], some (10, false)⟩, ⟨.p 17 .mov [.t 0], some (16, true)⟩, ⟨.p 18 .mov [.t 1], some (16, true)⟩, ⟨.call (some 19) false (.c (.fn 180 [] [])) [.t 17, .t 18], some (16, true)⟩, ⟨.p 20 .pick [.t 16, .t 19, .c (.bool false)], some (10, false)⟩, ⟨.p 21 .pick [.t 10, .c (.bool true), .t 20], none⟩, ⟨.p 4 .mov [.t 21], none⟩]) .ret))⟩
def F74 : PFunc := ⟨1, [.loc 2 (some 3)], (.seq (.reg [⟨.lput 2 (some 3) (.c (.agg [.int 0, .int 0, .lst [] .exact])), none⟩]) (.seq (.reg [⟨.call (some 4) false (.c (.fn 52 [] [])) [.c (.int 30)], none⟩, ⟨.call (some 5) false (.c (.fn 53 [] [])) [.c (.int 0), .c (.int 6), .t 4], none⟩, ⟨.call (some 6) false (.c (.fn 68 [] [])) [.c (.int 1), .c (.int 3)], none⟩, ⟨.call (some 7) false (.c (.fn 53 [] [])) [.c (.int 1), .c (.int 8), .t 6], none⟩, ⟨.call (some 8) false (.c (.fn 52 [] [])) [.c (.int 0)], none⟩, ⟨.call (some 9) false (.c (.fn 53 [] [])) [.c (.int 2), .c (.int 18), .t 8], none⟩, ⟨.call (some 10) false (.c (.fn 68 [] [])) [.c (.int 45), .c (.int 55)], none⟩, ⟨.call (some 11) false (.c (.fn 53 [] [])) [.c (.int 4), .c (.int 20), .t 10], none⟩, ⟨.p 12 (.lit (.agg [.int 0, .int 0, .int 0, .int 0]) 4 [0, 1, 2, 3] (some 4)) [.t 5, .t 7, .t 9, .t 11], none⟩, ⟨.p 3 .mov [.t 12], none⟩]) (.seq (.reg [⟨.call (some 13) false (.c (.fn 68 [] [])) [.c (.int 100), .c (.int 110)], none⟩, ⟨.p 14 .mov [.t 3], none⟩, ⟨.p 15 .mov [.t 0], none⟩, ⟨.append 16 4 (.agg [.int 0, .int 0, .int 0, .int 0]) false (.t 14) (.t 15), none⟩, ⟨.p 17 (.build [.int 0, .int 0, .lst [] .exact] [(0, 2), (2, 1)]) [.t 13, .t 16], none⟩, ⟨.lset 2 (some 3) (.t 17), none⟩]) .ret)))⟩
def F75 : PFunc := ⟨0, [.loc 0 (some 3)], (.seq (.reg [⟨.lput 0 (some 3) (.c (.agg [.int 0, .int 0, .lst [] .exact])), none⟩]) (.seq (.reg [⟨.call (some 1) false (.c (.fn 52 [] [])) [.c (.int 60)], none⟩, ⟨.call (some 2) false (.c (.fn 53 [] [])) [.c (.int 4), .c (.int 30), .t 1], none⟩, ⟨.p 3 (.lit (.agg [.int 0, .int 0, .int 0, .int 0]) 1 [0] (some 4)) [.t 2], none⟩, ⟨.call (some 4) false (.c (.fn 74 [] [])) [.t 3], none⟩, ⟨.lset 0 (some 3) (.t 4), none⟩]) .ret))⟩
def F76 : PFunc := ⟨0, [.loc 0 (some 3)], (.seq (.reg [⟨.lput 0 (some 3) (.c (.agg [.int 0, .int 0, .lst [] .exact])), none⟩]) (.seq (.reg [⟨.call (some 1) false (.c (.fn 68 [] [])) [.c (.int 20), .c (.int 24)], none⟩, ⟨.call (some 2) false (.c (.fn 68 [] [])) [.c (.int 2), .c (.int 3)], none⟩, ⟨.call (some 3) false (.c (.fn 53 [] [])) [.c (.int 1), .c (.int 2), .t 2], none⟩, ⟨.p 4 (.lit (.agg [.int 0, .int 0, .int 0, .int 0]) 1 [0] (some 4)) [.t 3], none⟩, ⟨.p 5 (.build [.int 0, .int 0, .lst [] .exact] [(0, 2), (2, 1)]) [.t 1, .t 4], none⟩, ⟨.lset 0 (some 3) (.t 5), none⟩]) .ret))⟩
def F101 : PFunc := ⟨2, [.tmp 4], (.seq (.reg [⟨.p 4 .mov [.c (.bool false)], none⟩]) (.seq (.reg [⟨.p 5 .mov [.t 0], none⟩, ⟨.p 6 .mov [.t 1], none⟩, ⟨.p 7 (.bin .shr) [.t 5, .t 6], none⟩, ⟨.p 8 (.bin .rem) [.t 7, .c (.int 2)], none⟩, ⟨.p 9 (.eq false .num) [.t 8, .c (.int 1)], none⟩, ⟨.p 4 .mov [.t 9], none⟩]) .ret))⟩
def F104 : PFunc := ⟨2, [.tmp 4], (.seq (.reg [⟨.lput 2 (some 2) (.t 0), none⟩, ⟨.p 4 .mov [.c (.int 0)], none⟩]) (.seq (.reg [⟨.la 5 2 none 0, none⟩, ⟨.lload 6 2 5 none, none⟩, ⟨.p 7 .mov [.t 1], none⟩, ⟨.la 8 2 none 1, none⟩, ⟨.lload 9 2 8 none, none⟩, ⟨.la 10 2 none 0, none⟩, ⟨.lload 11 2 10 none, none⟩, ⟨.p 12 (.bin .sub) [.t 9, .t 11], none⟩, ⟨.p 13 (.bin .add) [.t 12, .c (.int 1)], none⟩, ⟨.call (some 14) false (.c (.fn 50 [] [])) [.t 7, .t 13], none⟩, ⟨.p 15 (.bin .add) [.t 6, .t 14], none⟩, ⟨.p 4 .mov [.t 15], none⟩]) .ret))⟩
def F110 : PFunc := ⟨1, [.loc 2 (some 8)], (.seq (.reg [⟨.lput 1 (some 3) (.t 0), none⟩, ⟨.lput 2 (some 8) (.c (.agg [.int 0, .int 0, .lst [] .exact, .int 0, .int 0, .int 0, .int 0, .int 0])), none⟩]) (.seq (.reg [⟨.lwhole 6 1 (some 3), none⟩, ⟨.p 7 (.build [.int 0, .int 0, .lst [] .exact, .int 0, .int 0, .int 0, .int 0, .int 0] [(0, 3)]) [.t 6], none⟩, ⟨.lput 3 (some 8) (.c (.agg [.int 0, .int 0, .lst [] .exact, .int 0, .int 0, .int 0, .int 0, .int 0])), none⟩, ⟨.lset 3 (some 8) (.t 7), none⟩]) (.seq (.seq (.reg [⟨.la 8 1 none 2, none⟩, ⟨.lload 9 1 8 none, none⟩, ⟨.p 10 .len [.t 9], none⟩, ⟨.p 11 .mov [.c (.int 0)], none⟩]) (.block 0 (.loop (.seq (.reg [⟨.p 12 (.bin .lss) [.t 11, .t 10], none⟩]) (.seq (.cond (.t 12) .skip (.exit 0)) (.seq (.block 1 (.seq (.reg [⟨.p 13 (.ea 4) [.t 9, .t 11], none⟩, ⟨.p 14 (.eload (some 4)) [.t 13], none⟩, ⟨.lput 5 (some 4) (.c (.agg [.int 0, .int 0, .int 0, .int 0])), none⟩, ⟨.lset 5 (some 4) (.t 14), none⟩]) (.reg [⟨.la 15 5 none 0, none⟩, ⟨.lload 16 5 15 none, none⟩, ⟨.la 17 3 none 3, none⟩, ⟨.lia 18 3 (some 17) 5 1 (.t 16), none⟩, ⟨.lload 19 3 18 none, none⟩, ⟨.p 20 (.bin .add) [.t 19, .c (.int 1)], none⟩, ⟨.la 21 3 none 3, none⟩, ⟨.lia 22 3 (some 21) 5 1 (.t 16), none⟩, ⟨.lstore 3 22 none (.t 20), none⟩]))) (.reg [⟨.p 23 (.bin .add) [.t 11, .c (.int 1)], none⟩, ⟨.p 11 .mov [.t 23], none⟩]))))))) (.seq (.reg [⟨.lwhole 24 3 (some 8), none⟩, ⟨.lset 2 (some 8) (.t 24), none⟩]) .ret))))⟩
def F111 : PFunc := ⟨1, [.tmp 2], (.seq (.reg [⟨.lput 1 (some 8) (.t 0), none⟩, ⟨.p 2 .mov [.c (.bool false)], none⟩]) (.seq (.seq (.reg [⟨.la 5 1 none 3, none⟩, ⟨.lload 6 1 5 (some 5), none⟩, ⟨.call (some 7) false (.c (.fn 202 [] [])) [], none⟩, ⟨.p 8 (.eq false (.row [true, true, true, true, true])) [.t 6, .t 7], none⟩]) (.cond (.t 8) (.seq (.reg [⟨.p 2 .mov [.c (.bool true)], none⟩]) .ret) .skip)) (.seq (.reg [⟨.lwhole 10 1 (some 8), none⟩, ⟨.call (some 11) false (.c (.fn 129 [] [])) [.t 10], none⟩, ⟨.la 12 1 none 0, none⟩, ⟨.la 13 1 (some 12) 2, none⟩, ⟨.lload 14 1 13 none, none⟩, ⟨.call (some 15) false (.c (.fn 128 [] [])) [.t 11, .c (.int 0), .t 14], none⟩, ⟨.p 9 .mov [.t 15], none⟩, ⟨.p 16 (.ext 0) [.t 9], none⟩, ⟨.p 17 (.ext 1) [.t 9], none⟩, ⟨.p 3 .mov [.t 16], none⟩, ⟨.p 4 .mov [.t 17], none⟩]) (.seq (.reg [⟨.p 18 .mov [.t 3], none⟩, ⟨.mlen 19 (.t 18), none⟩, ⟨.p 20 (.bin .gtr) [.t 19, .c (.int 0)], none⟩, ⟨.p 2 .mov [.t 20], none⟩]) .ret))))⟩
def F113 : PFunc := ⟨2, [.tmp 4], (.seq (.reg [⟨.lput 2 (some 2) (.t 0), none⟩, ⟨.p 4 .mov [.c (.bool false)], none⟩]) (.seq (.reg [⟨.la 5 2 none 0, none⟩, ⟨.lload 6 2 5 none, none⟩, ⟨.p 7 (.bin .leq) [.c (.int 0), .t 6], none⟩, ⟨.p 8 .mov [.t 7], none⟩, ⟨.la 9 2 none 0, some (8, true)⟩, ⟨.lload 10 2 9 none, some (8, true)⟩, ⟨.la 11 2 none 1, some (8, true)⟩, ⟨.lload 12 2 11 none, some (8, true)⟩, ⟨.p 13 (.bin .leq) [.t 10, .t 12], some (8, true)⟩, ⟨.p 14 .pick [.t 8, .t 13, .c (.bool false)], none⟩, ⟨.p 15 .mov [.t 14], none⟩, ⟨.la 16 2 none 1, some (15, true)⟩, ⟨.lload 17 2 16 none, some (15, true)⟩, ⟨.p 18 .mov [.t 1], some (15, true)⟩, ⟨.p 19 (.bin .leq) [.t 17, .t 18], some (15, true)⟩, ⟨.p 20 .pick [.t 15, .t 19, .c (.bool false)], none⟩, ⟨.p 21 .mov [.t 20], none⟩, ⟨.la 22 2 none 1, some (21, true)⟩, ⟨.lload 23 2 22 none, some (21, true)⟩, ⟨.la 24 2 none 0, some (21, true)⟩, ⟨.lload 25 2 24 none, some (21, true)⟩, ⟨.p 26 (.bin .sub) [.t 23, .t 25], some (21, true)⟩, ⟨.p 27 (.bin .leq) [.t 26, .c (.int 12)], some (21, true)⟩, ⟨.p 28 .pick [.t 21, .t 27, .c (.bool false)], none⟩, ⟨.p 4 .mov [.t 28], none⟩]) .ret))⟩
def F114 : PFunc := ⟨1, [.tmp 2], (.seq (.reg [⟨.lput 1 (some 4) (.t 0), none⟩, ⟨.p 2 .mov [.c (.bool false)], none⟩]) (.seq (.reg [⟨.la 3 1 none 0, none⟩, ⟨.lload 4 1 3 none, none⟩, ⟨.call (some 5) false (.c (.fn 118 [] [])) [.t 4, .c (.int 0), .c (.int 4)], none⟩, ⟨.p 6 .mov [.t 5], none⟩, ⟨.la 7 1 none 1, some (6, true)⟩, ⟨.lload 8 1 7 none, some (6, true)⟩, ⟨.call (some 9) false (.c (.fn 118 [] [])) [.t 8, .c (.int 0), .c (.int 60)], some (6, true)⟩, ⟨.p 10 .pick [.t 6, .t 9, .c (.bool false)], none⟩, ⟨.p 11 .mov [.t 10], none⟩, ⟨.la 12 1 none 2, some (11, true)⟩, ⟨.lload 13 1 12 (some 2), some (11, true)⟩, ⟨.la 14 1 none 0, some (11, true)⟩, ⟨.lload 15 1 14 none, some (11, true)⟩, ⟨.p 16 (.ia 5 1) [.c (.rptr [.int 400, .int 9, .int 0, .int 400, .int 400] 0), .t 15], some (11, true)⟩, ⟨.p 17 (.eload none) [.t 16], some (11, true)⟩, ⟨.call (some 18) false (.c (.fn 113 [] [])) [.t 13, .t 17], some (11, true)⟩, ⟨.p 19 .pick [.t 11, .t 18, .c (.bool false)], none⟩, ⟨.p 2 .mov [.t 19], none⟩]) .ret))⟩
def F115 : PFunc := ⟨1, [.tmp 2], (.seq (.reg [⟨.lput 1 (some 4) (.t 0), none⟩, ⟨.p 2 .mov [.c (.bool false)], none⟩]) (.seq (.reg [⟨.p 3 .mov [.c (.int 400)], none⟩]) (.seq (.seq (.reg [⟨.la 4 1 none 0, none⟩, ⟨.lload 5 1 4 none, none⟩]) (.block 0 (.seq (.reg [⟨.p 7 (.eq false .num) [.t 5, .c (.int 1)], none⟩, ⟨.p 6 .mov [.t 7], none⟩]) (.cond (.t 6) (.reg [⟨.p 3 .mov [.c (.int 9)], none⟩]) (.seq (.reg [⟨.p 9 (.eq false .num) [.t 5, .c (.int 2)], none⟩, ⟨.p 8 .mov [.t 9], none⟩]) (.cond (.t 8) (.reg [⟨.p 3 .mov [.c (.int 0)], none⟩]) .skip)))))) (.seq (.reg [⟨.la 10 1 none 0, none⟩, ⟨.lload 11 1 10 none, none⟩, ⟨.call (some 12) false (.c (.fn 51 [] [])) [.t 11, .c (.int 0), .c (.int 4)], none⟩, ⟨.p 13 .mov [.t 12], none⟩, ⟨.la 14 1 none 1, some (13, true)⟩, ⟨.lload 15 1 14 none, some (13, true)⟩, ⟨.call (some 16) false (.c (.fn 51 [] [])) [.t 15, .c (.int 0), .c (.int 60)], some (13, true)⟩, ⟨.p 17 .pick [.t 13, .t 16, .c (.bool false)], none⟩, ⟨.p 18 .mov [.t 17], none⟩, ⟨.la 19 1 none 2, some (18, true)⟩, ⟨.lload 20 1 19 (some 2), some (18, true)⟩, ⟨.p 21 .mov [.t 3], some (18, true)⟩, ⟨.call (some 22) false (.c (.fn 54 [] [])) [.t 20, .c (.int 0), .t 21], some (18, true)⟩, ⟨.p 23 .pick [.t 18, .t 22, .c (.bool false)], none⟩, ⟨.p 24 .mov [.t 23], none⟩, ⟨.la 25 1 none 2, some (24, true)⟩, ⟨.la 26 1 (some 25) 1, some (24, true)⟩, ⟨.lload 27 1 26 none, some (24, true)⟩, ⟨.la 28 1 none 2, some (24, true)⟩, ⟨.la 29 1 (some 28) 0, some (24, true)⟩, ⟨.lload 30 1 29 none, some (24, true)⟩, ⟨.p 31 (.bin .sub) [.t 27, .t 30], some (24, true)⟩, ⟨.p 32 (.bin .leq) [.t 31, .c (.int 12)], some (24, true)⟩, ⟨.p 33 .pick [.t 24, .t 32, .c (.bool false)], none⟩, ⟨.p 2 .mov [.t 33], none⟩]) .ret))))⟩
def F116 : PFunc := ⟨2, [.loc 4 (some 8), .tmp 5], (.seq (.reg [⟨.lput 2 (some 3) (.t 0), none⟩, ⟨.lput 4 (some 8) (.c (.agg [.int 0, .int 0, .lst [] .exact, .int 0, .int 0, .int 0, .int 0, .int 0])), none⟩, ⟨.p 5 .mov [.c (.int 0)], none⟩]) (.seq (.seq (.reg [⟨.lwhole 8 2 (some 3), none⟩, ⟨.call (some 9) false (.c (.fn 29 [] [])) [.t 8], none⟩, ⟨.p 6 .mov [.t 9], none⟩]) (.seq (.reg [⟨.p 10 .mov [.t 6], none⟩, ⟨.p 11 (.eq true .num) [.t 10, .c (.int 0)], none⟩]) (.cond (.t 11) (.seq (.reg [⟨.p 12 (.build [.int 0, .int 0, .lst [] .exact, .int 0, .int 0, .int 0, .int 0, .int 0] []) [], none⟩, ⟨.p 13 .mov [.t 6], none⟩, ⟨.lset 4 (some 8) (.t 12), none⟩, ⟨.p 5 .mov [.t 13], none⟩]) .ret) .skip))) (.seq (.seq (.reg [⟨.p 14 .mov [.t 1], none⟩, ⟨.p 15 .not [.t 14], none⟩]) (.cond (.t 15) (.seq (.reg [⟨.p 16 (.build [.int 0, .int 0, .lst [] .exact, .int 0, .int 0, .int 0, .int 0, .int 0] []) [], none⟩, ⟨.lset 4 (some 8) (.t 16), none⟩, ⟨.p 5 .mov [.c (.int 31)], none⟩]) .ret) .skip)) (.seq (.reg [⟨.lwhole 17 2 (some 3), none⟩, ⟨.call (some 18) false (.c (.fn 110 [] [])) [.t 17], none⟩, ⟨.lput 7 (some 8) (.c (.agg [.int 0, .int 0, .lst [] .exact, .int 0, .int 0, .int 0, .int 0, .int 0])), none⟩, ⟨.lset 7 (some 8) (.t 18), none⟩]) (.seq (.seq (.reg [⟨.lwhole 19 7 (some 8), none⟩, ⟨.call (some 20) false (.c (.fn 111 [] [])) [.t 19], none⟩, ⟨.p 21 .not [.t 20], none⟩]) (.cond (.t 21) (.seq (.reg [⟨.lwhole 22 7 (some 8), none⟩, ⟨.lset 4 (some 8) (.t 22), none⟩, ⟨.p 5 .mov [.c (.int 32)], none⟩]) .ret) .skip)) (.seq (.reg [⟨.lwhole 23 7 (some 8), none⟩, ⟨.lset 4 (some 8) (.t 23), none⟩, ⟨.p 5 .mov [.c (.int 0)], none⟩]) .ret))))))⟩
def F117 : PFunc := ⟨1, [.tmp 2], (.seq (.reg [⟨.p 2 .mov [.c (.bool false)], none⟩]) (.seq (.reg [⟨.p 3 .mov [.t 0], none⟩, ⟨.call (some 4) false (.c (.fn 118 [] [])) [.t 3, .c (.int 0), .c (.int 60)], none⟩, ⟨.p 2 .mov [.t 4], none⟩]) .ret))⟩
def F118 : PFunc := ⟨3, [.tmp 6], (.seq (.reg [⟨.p 6 .mov [.c (.bool false)], none⟩]) (.seq (.reg [⟨.p 7 .mov [.t 1], none⟩, ⟨.p 8 .mov [.t 0], none⟩, ⟨.p 9 (.bin .leq) [.t 7, .t 8], none⟩, ⟨.p 10 .mov [.t 9], none⟩, ⟨.p 11 .mov [.t 0], some (10, true)⟩, ⟨.p 12 .mov [.t 2], some (10, true)⟩, ⟨.p 13 (.bin .leq) [.t 11, .t 12], some (10, true)⟩, ⟨.p 14 .pick [.t 10, .t 13, .c (.bool false)], none⟩, ⟨.p 6 .mov [.t 14], none⟩]) .ret))⟩
def F119 : PFunc := ⟨2, [.tmp 4], (.seq (.reg [⟨.rbox 2 (some 8) (.t 0), none⟩, ⟨.rbox 3 none (.t 1), none⟩, ⟨.p 4 .mov [.c (.nilfn)], none⟩]) (.seq (.reg [⟨.p 5 (.mkfn 203 0) [.t 2, .t 3], none⟩, ⟨.p 4 .mov [.t 5], none⟩]) .ret))⟩
def F122 : PFunc := ⟨3, [.loc 6 (some 2)], (.seq (.reg [⟨.lput 3 (some 8) (.t 0), none⟩, ⟨.lput 5 (some 1) (.t 2), none⟩, ⟨.lput 6 (some 2) (.c (.agg [.int 0, .int 0])), none⟩]) (.seq (.reg [⟨.hbox 7 none (.c (.lst [] .exact)), none⟩]) (.seq (.seq (.reg [⟨.lwhole 9 3 (some 8), none⟩, ⟨.p 10 .mov [.t 1], none⟩, ⟨.call (some 11) false (.c (.fn 119 [] [])) [.t 9, .t 10], none⟩]) (.block 0 (.rfunc (.t 11) [12] [8] (.reg [⟨.lput 8 (some 2) (.c (.agg [.int 0, .int 0])), none⟩, ⟨.lset 8 (some 2) (.t 12), none⟩]) (.block 1 (.reg [⟨.load 13 none (.t 7), none⟩, ⟨.la 14 5 none 0, none⟩, ⟨.lload 15 5 14 none, none⟩, ⟨.lwhole 16 8 (some 2), none⟩, ⟨.call (some 17) true (.t 15) [.t 16], none⟩, ⟨.p 18 (.lit (.int 0) 1 [0] none) [.t 17], none⟩, ⟨.append 19 1 (.int 0) false (.t 13) (.t 18), none⟩, ⟨.store none (.t 7) (.t 19), none⟩]))))) (.seq (.reg [⟨.load 20 none (.t 7), none⟩, ⟨.call (some 21) false (.c (.fn 131 [] [])) [.t 20], none⟩, ⟨.lset 6 (some 2) (.t 21), none⟩]) .ret))))⟩
def F123 : PFunc := ⟨0, [.loc 0 (some 1)], (.seq (.reg [⟨.lput 0 (some 1) (.c (.agg [.nilfn])), none⟩]) (.seq (.reg [⟨.p 1 (.build [.nilfn] [(0, 1)]) [.c (.fn 205 [] [])], none⟩, ⟨.lset 0 (some 1) (.t 1), none⟩]) .ret))⟩
def F126 : PFunc := ⟨0, [.loc 0 (some 1)], (.seq (.reg [⟨.lput 0 (some 1) (.c (.agg [.nilfn])), none⟩]) (.seq (.reg [⟨.p 1 (.build [.nilfn] [(0, 1)]) [.c (.fn 206 [] [])], none⟩, ⟨.lset 0 (some 1) (.t 1), none⟩]) .ret))⟩
def F128 : PFunc := ⟨3, [.tmp 6, .tmp 7], (.seq (.reg [⟨.p 6 .mov [.c (.map none)], none⟩, ⟨.p 7 .mov [.c (.int 0)], none⟩]) (.seq (.seq (.reg [⟨.p 10 .mov [.t 2], none⟩, ⟨.p 11 .len [.t 10], none⟩, ⟨.p 12 .mov [.c (.int 0)], none⟩]) (.block 0 (.loop (.seq (.reg [⟨.p 13 (.bin .lss) [.t 12, .t 11], none⟩]) (.seq (.cond (.t 13) .skip (.exit 0)) (.seq (.block 1 (.seq (.reg [⟨.p 14 (.ea 4) [.t 10, .t 12], none⟩, ⟨.p 15 (.eload (some 4)) [.t 14], none⟩, ⟨.lput 9 (some 4) (.c (.agg [.int 0, .int 0, .int 0, .int 0])), none⟩, ⟨.lset 9 (some 4) (.t 15), none⟩]) (.reg [⟨.p 16 .mov [.t 0], none⟩, ⟨.p 17 .mov [.t 1], none⟩, ⟨.lwhole 18 9 (some 4), none⟩, ⟨.call (some 19) false (.c (.fn 207 [] [])) [.t 16, .t 17, .t 18], none⟩, ⟨.la 20 9 none 1, none⟩, ⟨.lload 21 9 20 none, none⟩, ⟨.p 0 .mov [.t 19], none⟩, ⟨.p 1 .mov [.t 21], none⟩]))) (.reg [⟨.p 22 (.bin .add) [.t 12, .c (.int 1)], none⟩, ⟨.p 12 .mov [.t 22], none⟩]))))))) (.seq (.reg [⟨.p 23 .mov [.t 0], none⟩, ⟨.p 24 .mov [.t 1], none⟩, ⟨.p 6 .mov [.t 23], none⟩, ⟨.p 7 .mov [.t 24], none⟩]) .ret)))⟩
def F129 : PFunc := ⟨1, [.tmp 2], (.seq (.reg [⟨.lput 1 (some 8) (.t 0), none⟩, ⟨.p 2 .mov [.c (.map none)], none⟩]) (.seq (.reg [⟨.mkmap 5, none⟩, ⟨.lput 3 none (.c (.map none)), none⟩, ⟨.lset 3 none (.t 5), none⟩]) (.seq (.seq (.reg [⟨.lwhole 6 1 (some 8), none⟩, ⟨.call (some 7) false (.c (.fn 208 [] [])) [.t 6], none⟩]) (.block 0 (.rfunc (.t 7) [8] [4] (.reg [⟨.lput 4 (some 2) (.c (.agg [.int 0, .int 0])), none⟩, ⟨.lset 4 (some 2) (.t 8), none⟩]) (.block 1 (.reg [⟨.lwhole 9 3 none, none⟩, ⟨.lwhole 10 4 (some 2), none⟩, ⟨.mapset (.row [true, true]) (.t 9) (.t 10) (.c (.bool true)) none, none⟩]))))) (.seq (.reg [⟨.lwhole 11 3 none, none⟩, ⟨.p 2 .mov [.t 11], none⟩]) .ret))))⟩
def F130 : PFunc := ⟨2, [.loc 4 (some 2)], (.seq (.reg [⟨.lput 2 (some 2) (.t 0), none⟩, ⟨.lput 4 (some 2) (.c (.agg [.int 0, .int 0])), none⟩]) (.seq (.reg [⟨.la 5 2 none 0, none⟩, ⟨.lload 6 2 5 none, none⟩, ⟨.la 7 2 none 1, none⟩, ⟨.lload 8 2 7 none, none⟩, ⟨.p 9 .mov [.t 1], none⟩, ⟨.p 10 (.bin .mul) [.t 8, .t 9], none⟩, ⟨.p 11 (.bin .sub) [.t 6, .t 10], none⟩, ⟨.p 12 .max [.c (.int 0), .t 11], none⟩, ⟨.la 13 2 none 1, none⟩, ⟨.lload 14 2 13 none, none⟩, ⟨.p 15 (.build [.int 0, .int 0] [(0, 1), (1, 1)]) [.t 12, .t 14], none⟩, ⟨.lset 4 (some 2) (.t 15), none⟩]) .ret))⟩
def F131 : PFunc := ⟨1, [.loc 2 (some 2)], (.seq (.reg [⟨.lput 2 (some 2) (.c (.agg [.int 0, .int 0])), none⟩]) (.seq (.reg [⟨.p 3 .mov [.t 0], none⟩, ⟨.p 4 (.ea 1) [.t 3, .c (.int 0)], none⟩, ⟨.p 5 (.eload none) [.t 4], none⟩, ⟨.p 6 .mov [.t 0], none⟩, ⟨.p 7 (.slc 1 true false false) [.t 6, .c (.int 1)], none⟩, ⟨.call (some 8) false (.c (.fn 209 [] [])) [.t 5, .t 7], none⟩, ⟨.p 9 .mov [.t 0], none⟩, ⟨.call (some 10) false (.c (.fn 210 [] [])) [.t 9], none⟩, ⟨.p 11 (.build [.int 0, .int 0] [(0, 1), (1, 1)]) [.t 8, .t 10], none⟩, ⟨.lset 2 (some 2) (.t 11), none⟩]) .ret))⟩
def F135 : PFunc := ⟨3, [.tmp 6], (.seq (.reg [⟨.p 6 .mov [.c (.lst [] .exact)], none⟩]) (.seq (.reg [⟨.p 10 .mov [.t 0], none⟩, ⟨.p 11 .mov [.t 1], none⟩, ⟨.p 12 (.slc 4 true false false) [.t 10, .t 11], none⟩]) (.seq (.reg [⟨.p 13 .mov [.t 2], none⟩, ⟨.p 14 .len [.t 13], none⟩, ⟨.p 7 .mov [.t 14], none⟩]) (.seq (.seq (.reg [⟨.p 15 .mov [.t 7], none⟩, ⟨.p 16 (.eq false .num) [.t 15, .c (.int 0)], none⟩]) (.cond (.t 16) (.seq (.reg [⟨.p 17 .mov [.t 0], none⟩, ⟨.p 6 .mov [.t 17], none⟩]) .ret) .skip)) (.seq (.reg [⟨.p 18 .mov [.t 0], none⟩, ⟨.p 19 .len [.t 18], none⟩, ⟨.p 8 .mov [.t 19], none⟩]) (.seq (.seq (.reg [⟨.p 20 .mov [.t 1], none⟩, ⟨.p 21 .mov [.t 8], none⟩, ⟨.p 22 (.eq false .num) [.t 20, .t 21], none⟩]) (.cond (.t 22) (.seq (.reg [⟨.p 23 .mov [.t 0], none⟩, ⟨.p 24 .mov [.t 2], none⟩, ⟨.append 25 4 (.agg [.int 0, .int 0, .int 0, .int 0]) true (.t 23) (.t 24), none⟩, ⟨.p 6 .mov [.t 25], none⟩]) .ret) .skip)) (.seq (.seq (.reg [⟨.p 26 .mov [.t 8], none⟩, ⟨.p 27 .mov [.t 7], none⟩, ⟨.p 28 (.bin .add) [.t 26, .t 27], none⟩, ⟨.p 29 .mov [.t 0], none⟩, ⟨.p 30 .cap [.t 29], none⟩, ⟨.p 31 (.bin .gtr) [.t 28, .t 30], none⟩]) (.cond (.t 31) (.seq (.reg [⟨.p 32 .mov [.t 0], none⟩, ⟨.p 33 .mov [.t 1], none⟩, ⟨.p 34 (.slc 4 false true false) [.t 32, .t 33], none⟩, ⟨.p 35 .mov [.t 8], none⟩, ⟨.p 36 .mov [.t 7], none⟩, ⟨.p 37 (.bin .add) [.t 35, .t 36], none⟩, ⟨.p 38 .mov [.t 1], none⟩, ⟨.p 39 (.bin .sub) [.t 37, .t 38], none⟩, ⟨.appendZ 40 4 (.agg [.int 0, .int 0, .int 0, .int 0]) (.t 34) (.t 39), none⟩, ⟨.p 9 .mov [.t 40], none⟩]) (.seq (.reg [⟨.p 41 .mov [.t 9], none⟩, ⟨.p 42 .mov [.t 1], none⟩, ⟨.p 43 (.slc 4 true false false) [.t 41, .t 42], none⟩, ⟨.p 44 .mov [.t 2], none⟩, ⟨.copy 45 4 (.t 43) (.t 44), none⟩]) (.seq (.reg [⟨.p 46 .mov [.t 9], none⟩, ⟨.p 47 .mov [.t 1], none⟩, ⟨.p 48 .mov [.t 7], none⟩, ⟨.p 49 (.bin .add) [.t 47, .t 48], none⟩, ⟨.p 50 (.slc 4 true false false) [.t 46, .t 49], none⟩, ⟨.p 51 .mov [.t 0], none⟩, ⟨.p 52 .mov [.t 1], none⟩, ⟨.p 53 (.slc 4 true false false) [.t 51, .t 52], none⟩, ⟨.copy 54 4 (.t 50) (.t 53), none⟩]) (.seq (.reg [⟨.p 55 .mov [.t 9], none⟩, ⟨.p 6 .mov [.t 55], none⟩]) .ret)))) .skip)) (.seq (.reg [⟨.p 56 .mov [.t 0], none⟩, ⟨.p 57 .mov [.t 8], none⟩, ⟨.p 58 .mov [.t 7], none⟩, ⟨.p 59 (.bin .add) [.t 57, .t 58], none⟩, ⟨.p 60 (.slc 4 false true false) [.t 56, .t 59], none⟩, ⟨.p 0 .mov [.t 60], none⟩]) (.seq (.seq (.reg [⟨.p 61 .mov [.t 2], none⟩, ⟨.p 62 .mov [.t 0], none⟩, ⟨.p 63 .mov [.t 1], none⟩, ⟨.p 64 .mov [.t 7], none⟩, ⟨.p 65 (.bin .add) [.t 63, .t 64], none⟩, ⟨.p 66 (.slc 4 true false false) [.t 62, .t 65], none⟩, ⟨.ovl 67 (.t 61) (.t 66), none⟩, ⟨.p 68 .not [.t 67], none⟩]) (.cond (.t 68) (.seq (.reg [⟨.p 69 .mov [.t 0], none⟩, ⟨.p 70 .mov [.t 1], none⟩, ⟨.p 71 .mov [.t 7], none⟩, ⟨.p 72 (.bin .add) [.t 70, .t 71], none⟩, ⟨.p 73 (.slc 4 true false false) [.t 69, .t 72], none⟩, ⟨.p 74 .mov [.t 0], none⟩, ⟨.p 75 .mov [.t 1], none⟩, ⟨.p 76 (.slc 4 true false false) [.t 74, .t 75], none⟩, ⟨.copy 77 4 (.t 73) (.t 76), none⟩]) (.seq (.reg [⟨.p 78 .mov [.t 0], none⟩, ⟨.p 79 .mov [.t 1], none⟩, ⟨.p 80 (.slc 4 true false false) [.t 78, .t 79], none⟩, ⟨.p 81 .mov [.t 2], none⟩, ⟨.copy 82 4 (.t 80) (.t 81), none⟩]) (.seq (.reg [⟨.p 83 .mov [.t 0], none⟩, ⟨.p 6 .mov [.t 83], none⟩]) .ret))) .skip)) (.seq (.reg [⟨.p 84 .mov [.t 0], none⟩, ⟨.p 85 .mov [.t 8], none⟩, ⟨.p 86 (.slc 4 true false false) [.t 84, .t 85], none⟩, ⟨.p 87 .mov [.t 2], none⟩, ⟨.copy 88 4 (.t 86) (.t 87), none⟩]) (.seq (.reg [⟨.p 89 .mov [.t 0], none⟩, ⟨.p 90 .mov [.t 1], none⟩, ⟨.p 91 (.slc 4 true false false) [.t 89, .t 90], none⟩, ⟨.p 92 .mov [.t 7], none⟩, ⟨.call (some 93) false (.c (.fn 213 [] [])) [.t 91, .t 92], none⟩]) (.seq (.reg [⟨.p 94 .mov [.t 0], none⟩, ⟨.p 6 .mov [.t 94], none⟩]) .ret))))))))))))⟩
def F136 : PFunc := ⟨1, [.tmp 2], (.seq (.reg [⟨.p 2 .mov [.c (.lst [] .exact)], none⟩]) (.seq (.seq (.reg [⟨.p 3 .mov [.t 0], none⟩, ⟨.isnil 4 false (.t 3), none⟩]) (.cond (.t 4) (.seq (.reg [⟨.p 2 .mov [.c (.lst [] .exact)], none⟩]) .ret) .skip)) (.seq (.reg [⟨.p 5 (.lit (.agg [.int 0, .int 0, .int 0, .int 0]) 0 [] (some 4)) [], none⟩, ⟨.p 6 .mov [.t 0], none⟩, ⟨.append 7 4 (.agg [.int 0, .int 0, .int 0, .int 0]) true (.t 5) (.t 6), none⟩, ⟨.p 2 .mov [.t 7], none⟩]) .ret)))⟩
def F138 : PFunc := ⟨4, [.tmp 6, .tmp 7], (.seq (.reg [⟨.p 6 .mov [.c (.lst [] .exact)], none⟩, ⟨.p 7 .mov [.c (.bool false)], none⟩]) (.seq (.reg [⟨.p 16 .mov [.t 0], none⟩, ⟨.p 17 .len [.t 16], none⟩, ⟨.p 8 .mov [.t 17], none⟩]) (.seq (.seq (.reg [⟨.p 18 .mov [.t 8], none⟩, ⟨.p 19 .mov [.t 1], none⟩, ⟨.p 20 (.eq false .num) [.t 18, .t 19], none⟩]) (.cond (.t 20) (.seq (.reg [⟨.p 21 (.eload (some 3)) [.t 2], none⟩, ⟨.lput 9 (some 3) (.c (.agg [.int 0, .int 0, .lst [] .exact])), none⟩, ⟨.lset 9 (some 3) (.t 21), none⟩]) (.seq (.reg [⟨.la 22 9 none 2, none⟩, ⟨.lstore 9 22 none (.c (.lst [] .exact)), none⟩]) (.seq (.seq (.reg [⟨.p 23 (.fa 2) [.t 2], none⟩, ⟨.p 24 (.eload none) [.t 23], none⟩, ⟨.p 25 .len [.t 24], none⟩, ⟨.p 26 .mov [.c (.int 0)], none⟩]) (.block 0 (.loop (.seq (.reg [⟨.p 27 (.bin .lss) [.t 26, .t 25], none⟩]) (.seq (.cond (.t 27) .skip (.exit 0)) (.seq (.block 1 (.seq (.reg [⟨.p 28 .mov [.t 26], none⟩, ⟨.p 29 (.ea 4) [.t 24, .t 26], none⟩, ⟨.p 30 (.eload (some 4)) [.t 29], none⟩, ⟨.lput 11 (some 4) (.c (.agg [.int 0, .int 0, .int 0, .int 0])), none⟩, ⟨.p 10 .mov [.t 28], none⟩, ⟨.lset 11 (some 4) (.t 30), none⟩]) (.seq (.reg [⟨.p 31 .mov [.t 0], none⟩, ⟨.p 32 .mov [.t 10], none⟩, ⟨.call (some 33) false (.c (.fn 139 [] [])) [.t 31, .t 32], none⟩, ⟨.p 34 .not [.t 33], none⟩]) (.cond (.t 34) (.reg [⟨.la 35 9 none 2, none⟩, ⟨.lload 36 9 35 none, none⟩, ⟨.lwhole 37 11 (some 4), none⟩, ⟨.p 38 (.lit (.agg [.int 0, .int 0, .int 0, .int 0]) 1 [0] (some 4)) [.t 37], none⟩, ⟨.append 39 4 (.agg [.int 0, .int 0, .int 0, .int 0]) false (.t 36) (.t 38), none⟩, ⟨.la 40 9 none 2, none⟩, ⟨.lstore 9 40 none (.t 39), none⟩]) .skip)))) (.reg [⟨.p 41 (.bin .add) [.t 26, .c (.int 1)], none⟩, ⟨.p 26 .mov [.t 41], none⟩]))))))) (.seq (.reg [⟨.p 42 .mov [.t 0], none⟩, ⟨.lwhole 43 9 (some 3), none⟩, ⟨.call (some 44) false (.c (.fn 110 [] [])) [.t 43], none⟩, ⟨.call (some 45) false (.c (.fn 111 [] [])) [.t 44], none⟩, ⟨.p 6 .mov [.t 42], none⟩, ⟨.p 7 .mov [.t 45], none⟩]) .ret)))) .skip)) (.seq (.reg [⟨.p 12 .mov [.c (.int 0)], none⟩]) (.seq (.seq (.reg [⟨.p 46 .mov [.t 8], none⟩, ⟨.p 47 (.bin .gtr) [.t 46, .c (.int 0)], none⟩]) (.cond (.t 47) (.reg [⟨.p 48 .mov [.t 0], none⟩, ⟨.p 49 .mov [.t 8], none⟩, ⟨.p 50 (.bin .sub) [.t 49, .c (.int 1)], none⟩, ⟨.p 51 (.ea 1) [.t 48, .t 50], none⟩, ⟨.p 52 (.eload none) [.t 51], none⟩, ⟨.p 53 (.bin .add) [.t 52, .c (.int 1)], none⟩, ⟨.p 12 .mov [.t 53], none⟩]) .skip)) (.seq (.seq (.reg [⟨.p 54 .mov [.t 12], none⟩, ⟨.p 13 .mov [.t 54], none⟩]) (.block 2 (.loop (.seq (.seq (.reg [⟨.p 55 .mov [.t 13], none⟩, ⟨.p 56 (.fa 2) [.t 2], none⟩, ⟨.p 57 (.eload none) [.t 56], none⟩, ⟨.p 58 .len [.t 57], none⟩, ⟨.p 59 (.bin .lss) [.t 55, .t 58], none⟩]) (.cond (.t 59) .skip (.exit 2))) (.seq (.block 3 (.seq (.reg [⟨.load 63 none (.t 3), none⟩, ⟨.p 64 .mov [.t 0], none⟩, ⟨.p 65 .mov [.t 8], none⟩, ⟨.p 66 .mov [.t 8], none⟩, ⟨.p 67 (.slc 1 false true true) [.t 64, .t 65, .t 66], none⟩, ⟨.p 68 .mov [.t 13], none⟩, ⟨.p 69 (.lit (.int 0) 1 [0] none) [.t 68], none⟩, ⟨.append 70 1 (.int 0) false (.t 67) (.t 69), none⟩, ⟨.p 71 .mov [.t 1], none⟩, ⟨.call (some 72) false (.t 63) [.t 70, .t 71], none⟩, ⟨.p 62 .mov [.t 72], none⟩, ⟨.p 73 (.ext 0) [.t 62], none⟩, ⟨.p 74 (.ext 1) [.t 62], none⟩, ⟨.p 14 .mov [.t 73], none⟩, ⟨.p 15 .mov [.t 74], none⟩]) (.seq (.reg [⟨.p 75 .mov [.t 15], none⟩]) (.cond (.t 75) (.seq (.reg [⟨.p 76 .mov [.t 14], none⟩, ⟨.p 6 .mov [.t 76], none⟩, ⟨.p 7 .mov [.c (.bool true)], none⟩]) .ret) .skip)))) (.reg [⟨.p 60 .mov [.t 13], none⟩, ⟨.p 61 (.bin .add) [.t 60, .c (.int 1)], none⟩, ⟨.p 13 .mov [.t 61], none⟩])))))) (.seq (.reg [⟨.p 6 .mov [.c (.lst [] .exact)], none⟩, ⟨.p 7 .mov [.c (.bool false)], none⟩]) .ret)))))))⟩
def F139 : PFunc := ⟨2, [.tmp 4], (.seq (.reg [⟨.p 4 .mov [.c (.bool false)], none⟩]) (.seq (.reg [⟨.p 5 .mov [.t 0], none⟩, ⟨.p 6 .mov [.t 1], none⟩, ⟨.call (some 7) false (.c (.fn 214 [] [])) [.t 5, .t 6], none⟩, ⟨.p 8 (.bin .geq) [.t 7, .c (.int 0)], none⟩, ⟨.p 4 .mov [.t 8], none⟩]) .ret))⟩
def F141 : PFunc := ⟨2, [.tmp 4], (.seq (.reg [⟨.p 4 .mov [.c (.int 0)], none⟩]) (.seq (.seq (.reg [⟨.p 5 .mov [.t 0], none⟩, ⟨.p 6 .len [.t 5], none⟩, ⟨.p 7 (.bin .lss) [.t 6, .c (.int 1)], none⟩]) (.cond (.t 7) (.seq (.reg [⟨.p 4 .mov [.c (.int 0)], none⟩]) .ret) .skip)) (.seq (.reg [⟨.p 8 .mov [.t 0], none⟩, ⟨.p 9 .mov [.t 1], none⟩, ⟨.p 10 .mov [.t 0], none⟩, ⟨.p 11 .len [.t 10], none⟩, ⟨.call (some 12) false (.c (.fn 50 [] [])) [.t 9, .t 11], none⟩, ⟨.p 13 (.ea 1) [.t 8, .t 12], none⟩, ⟨.p 14 (.eload none) [.t 13], none⟩, ⟨.p 4 .mov [.t 14], none⟩]) .ret)))⟩
def F180 : PFunc := ⟨2, [.tmp 4], (.seq (.reg [⟨.p 4 .mov [.c (.bool false)], none⟩]) (.seq (.reg [⟨.p 5 .mov [.c (.int 0)], none⟩]) (.seq (.block 0 (.loop (.seq (.seq (.reg [⟨.p 6 .mov [.t 5], none⟩, ⟨.p 7 .mov [.t 0], none⟩, ⟨.p 8 .len [.t 7], none⟩, ⟨.p 9 (.bin .lss) [.t 6, .t 8], none⟩, ⟨.p 10 .mov [.t 9], none⟩, ⟨.p 11 .mov [.t 5], some (10, true)⟩, ⟨.p 12 .mov [.t 1], some (10, true)⟩, ⟨.p 13 .len [.t 12], some (10, true)⟩, ⟨.p 14 (.bin .lss) [.t 11, .t 13], some (10, true)⟩, ⟨.p 15 .pick [.t 10, .t 14, .c (.bool false)], none⟩, ⟨.p 16 .mov [.t 15], none⟩, ⟨.p 17 .mov [.t 0], some (16, true)⟩, ⟨.p 18 .mov [.t 5], some (16, true)⟩, ⟨.p 19 (.ea 1) [.t 17, .t 18], some (16, true)⟩, ⟨.p 20 (.eload none) [.t 19], some (16, true)⟩, ⟨.p 21 .mov [.t 1], some (16, true)⟩, ⟨.p 22 .mov [.t 5], some (16, true)⟩, ⟨.p 23 (.ea 1) [.t 21, .t 22], some (16, true)⟩, ⟨.p 24 (.eload none) [.t 23], some (16, true)⟩, ⟨.p 25 (.eq false .num) [.t 20, .t 24], some (16, true)⟩, ⟨.p 26 .pick [.t 16, .t 25, .c (.bool false)], none⟩]) (.cond (.t 26) .skip (.exit 0))) (.block 1 (.reg [⟨.p 27 .mov [.t 5], none⟩, ⟨.p 28 (.bin .add) [.t 27, .c (.int 1)], none⟩, ⟨.p 5 .mov [.t 28], none⟩]))))) (.seq (.reg [⟨.p 29 .mov [.t 5], none⟩, ⟨.p 30 .mov [.t 1], none⟩, ⟨.p 31 .len [.t 30], none⟩, ⟨.p 32 (.bin .lss) [.t 29, .t 31], none⟩, ⟨.p 33 .mov [.t 32], none⟩, ⟨.p 34 .mov [.t 5], some (33, true)⟩, ⟨.p 35 .mov [.t 0], some (33, true)⟩, ⟨.p 36 .len [.t 35], some (33, true)⟩, ⟨.p 37 (.eq false .num) [.t 34, .t 36], some (33, true)⟩, ⟨.p 38 .mov [.t 37], some (33, true)⟩, ⟨.p 39 .mov [.t 0], some (38, false)⟩, ⟨.p 40 .mov [.t 5], some (38, false)⟩, ⟨.p 41 (.ea 1) [.t 39, .t 40], some (38, false)⟩, ⟨.p 42 (.eload none) [.t 41], some (38, false)⟩, ⟨.p 43 .mov [.t 1], some (38, false)⟩, ⟨.p 44 .mov [.t 5], some (38, false)⟩, ⟨.p 45 (.ea 1) [.t 43, .t 44], some (38, false)⟩, ⟨.p 46 (.eload none) [.t 45], some (38, false)⟩, ⟨.p 47 (.bin .lss) [.t 42, .t 46], some (38, false)⟩, ⟨.p 48 .pick [.t 38, .c (.bool true), .t 47], some (33, true)⟩, ⟨.p 49 .pick [.t 33, .t 48, .c (.bool false)], none⟩, ⟨.p 4 .mov [.t 49], none⟩]) .ret))))⟩
def F202 : PFunc := ⟨0, [.loc 0 (some 5)], (.seq (.reg [⟨.lput 0 (some 5) (.c (.agg [.int 0, .int 0, .int 0, .int 0, .int 0])), none⟩]) (.seq (.reg [⟨.lput 1 (some 5) (.c (.agg [.int 0, .int 0, .int 0, .int 0, .int 0])), none⟩]) (.seq (.reg [⟨.lwhole 2 1 (some 5), none⟩, ⟨.lset 0 (some 5) (.t 2), none⟩]) .ret)))⟩
def F203 : PFunc := ⟨3, [], (.seq (.reg [⟨.p 4 .mov [.c (.int 0)], none⟩]) (.seq (.block 0 (.loop (.seq (.seq (.reg [⟨.p 10 .mov [.t 4], none⟩, ⟨.p 11 (.fa 0) [.t 1], none⟩, ⟨.p 12 (.fa 2) [.t 11], none⟩, ⟨.p 13 (.eload none) [.t 12], none⟩, ⟨.p 14 .len [.t 13], none⟩, ⟨.p 15 (.bin .lss) [.t 10, .t 14], none⟩, ⟨.p 16 .mov [.t 15], none⟩, ⟨.p 17 (.fa 0) [.t 1], some (16, true)⟩, ⟨.p 18 (.fa 2) [.t 17], some (16, true)⟩, ⟨.p 19 (.eload none) [.t 18], some (16, true)⟩, ⟨.p 20 .mov [.t 4], some (16, true)⟩, ⟨.p 21 (.ea 4) [.t 19, .t 20], some (16, true)⟩, ⟨.p 22 (.fa 1) [.t 21], some (16, true)⟩, ⟨.p 23 (.eload none) [.t 22], some (16, true)⟩, ⟨.p 24 (.eload none) [.t 2], some (16, true)⟩, ⟨.p 25 (.bin .leq) [.t 23, .t 24], some (16, true)⟩, ⟨.p 26 .pick [.t 16, .t 25, .c (.bool false)], none⟩]) (.cond (.t 26) .skip (.exit 0))) (.block 1 (.reg [⟨.p 27 .mov [.t 4], none⟩, ⟨.p 28 (.bin .add) [.t 27, .c (.int 1)], none⟩, ⟨.p 4 .mov [.t 28], none⟩]))))) (.seq (.reg [⟨.p 30 (.eload (some 8)) [.t 1], none⟩, ⟨.call (some 31) false (.c (.fn 129 [] [])) [.t 30], none⟩, ⟨.p 32 (.fa 0) [.t 1], none⟩, ⟨.p 33 (.fa 2) [.t 32], none⟩, ⟨.p 34 (.eload none) [.t 33], none⟩, ⟨.p 35 .mov [.t 4], none⟩, ⟨.p 36 (.slc 4 false true false) [.t 34, .t 35], none⟩, ⟨.call (some 37) false (.c (.fn 128 [] [])) [.t 31, .c (.int 0), .t 36], none⟩, ⟨.p 29 .mov [.t 37], none⟩, ⟨.p 38 (.ext 0) [.t 29], none⟩, ⟨.p 39 (.ext 1) [.t 29], none⟩, ⟨.p 5 .mov [.t 38], none⟩, ⟨.p 6 .mov [.t 39], none⟩]) (.seq (.reg [⟨.p 40 (.eload (some 8)) [.t 1], none⟩, ⟨.p 41 (.mkfn 204 1) [.t 40], none⟩, ⟨.p 7 .mov [.t 41], none⟩]) (.seq (.reg [⟨.mkmap 42, none⟩, ⟨.p 8 .mov [.t 42], none⟩]) (.seq (.reg [⟨.p 43 .mov [.t 5], none⟩, ⟨.range 44 (.t 43), none⟩]) (.block 2 (.loop (.seq (.reg [⟨.next 45 (.t 44), none⟩, ⟨.p 46 (.ext 0) [.t 45], none⟩]) (.seq (.cond (.t 46) .skip (.exit 2)) (.block 3 (.seq (.reg [⟨.entry 47 (.t 44), none⟩, ⟨.p 48 (.ext 0) [.t 47], none⟩, ⟨.lput 9 (some 2) (.c (.agg [.int 0, .int 0])), none⟩, ⟨.lset 9 (some 2) (.t 48), none⟩]) (.seq (.reg [⟨.lwhole 49 9 (some 2), none⟩, ⟨.p 50 (.eload none) [.t 2], none⟩, ⟨.p 51 .mov [.t 6], none⟩, ⟨.p 52 (.bin .sub) [.t 50, .t 51], none⟩, ⟨.call (some 53) false (.c (.fn 130 [] [])) [.t 49, .t 52], none⟩, ⟨.lset 9 (some 2) (.t 53), none⟩]) (.seq (.seq (.reg [⟨.p 54 .mov [.t 8], none⟩, ⟨.lwhole 55 9 (some 2), none⟩, ⟨.lookup 56 (.bool false) false (.row [true, true]) (.t 54) (.t 55), none⟩, ⟨.p 57 .mov [.t 56], none⟩, ⟨.p 58 .mov [.t 7], some (57, false)⟩, ⟨.lwhole 59 9 (some 2), some (57, false)⟩, ⟨.p 60 (.eload none) [.t 2], some (57, false)⟩, ⟨.p 61 .mov [.t 4], some (57, false)⟩, ⟨.call (some 62) false (.t 58) [.t 59, .t 60, .t 61], some (57, false)⟩, ⟨.p 63 .not [.t 62], some (57, false)⟩, ⟨.p 64 .pick [.t 57, .c (.bool true), .t 63], none⟩]) (.cond (.t 64) (.exit 3) .skip)) (.seq (.reg [⟨.p 65 .mov [.t 8], none⟩, ⟨.lwhole 66 9 (some 2), none⟩, ⟨.mapset (.row [true, true]) (.t 65) (.t 66) (.c (.bool true)) none, none⟩]) (.seq (.reg [⟨.p 67 .mov [.t 0], none⟩, ⟨.lwhole 68 9 (some 2), none⟩, ⟨.call (some 69) false (.t 67) [.t 68], none⟩, ⟨.p 70 .not [.t 69], none⟩]) (.cond (.t 70) .ret .skip)))))))))))))))))⟩
def F204 : PFunc := ⟨4, [.tmp 8], (.seq (.reg [⟨.rbox 4 (some 8) (.t 0), none⟩, ⟨.lput 5 (some 2) (.t 1), none⟩, ⟨.p 8 .mov [.c (.bool false)], none⟩]) (.seq (.reg [⟨.hbox 9 none (.c (.nilfn)), none⟩]) (.seq (.reg [⟨.p 10 (.mkfn 250 0) [.t 4, .t 9], none⟩, ⟨.store none (.t 9) (.t 10), none⟩]) (.seq (.reg [⟨.load 11 none (.t 9), none⟩, ⟨.mkmap 12, none⟩, ⟨.lwhole 13 5 (some 2), none⟩, ⟨.mapset (.row [true, true]) (.t 12) (.t 13) (.c (.bool true)) none, none⟩, ⟨.p 14 .mov [.t 12], none⟩, ⟨.p 15 .mov [.t 2], none⟩, ⟨.p 16 .mov [.t 3], none⟩, ⟨.call (some 17) false (.t 11) [.t 14, .t 15, .t 16], none⟩, ⟨.p 8 .mov [.t 17], none⟩]) .ret))))⟩
def F205 : PFunc := ⟨1, [.tmp 2], (.seq (.reg [⟨.lput 1 (some 2) (.t 0), none⟩, ⟨.p 2 .mov [.c (.int 0)], none⟩]) (.seq (.reg [⟨.la 3 1 none 0, none⟩, ⟨.lload 4 1 3 none, none⟩, ⟨.p 2 .mov [.t 4], none⟩]) .ret))⟩
def F206 : PFunc := ⟨1, [.tmp 2], (.seq (.reg [⟨.lput 1 (some 2) (.t 0), none⟩, ⟨.p 2 .mov [.c (.int 0)], none⟩]) (.seq (.reg [⟨.la 3 1 none 1, none⟩, ⟨.lload 4 1 3 none, none⟩, ⟨.p 2 .mov [.t 4], none⟩]) .ret))⟩
def F207 : PFunc := ⟨3, [.tmp 6], (.seq (.reg [⟨.lput 5 (some 4) (.t 2), none⟩, ⟨.p 6 .mov [.c (.map none)], none⟩]) (.seq (.reg [⟨.mkmap 12, none⟩, ⟨.p 7 .mov [.t 12], none⟩]) (.seq (.seq (.reg [⟨.p 13 .mov [.t 0], none⟩, ⟨.range 14 (.t 13), none⟩]) (.block 0 (.loop (.seq (.reg [⟨.next 15 (.t 14), none⟩, ⟨.p 16 (.ext 0) [.t 15], none⟩]) (.seq (.cond (.t 16) .skip (.exit 0)) (.block 1 (.seq (.reg [⟨.entry 17 (.t 14), none⟩, ⟨.p 18 (.ext 0) [.t 17], none⟩, ⟨.lput 8 (some 2) (.c (.agg [.int 0, .int 0])), none⟩, ⟨.lset 8 (some 2) (.t 18), none⟩]) (.seq (.reg [⟨.lwhole 19 8 (some 2), none⟩, ⟨.la 20 5 none 1, none⟩, ⟨.lload 21 5 20 none, none⟩, ⟨.p 22 .mov [.t 1], none⟩, ⟨.p 23 (.bin .sub) [.t 21, .t 22], none⟩, ⟨.call (some 24) false (.c (.fn 130 [] [])) [.t 19, .t 23], none⟩, ⟨.lset 8 (some 2) (.t 24), none⟩]) (.seq .skip (.seq (.reg [⟨.la 25 5 none 2, none⟩, ⟨.la 26 5 (some 25) 1, none⟩, ⟨.lload 27 5 26 none, none⟩, ⟨.la 28 5 none 2, none⟩, ⟨.la 29 5 (some 28) 0, none⟩, ⟨.lload 30 5 29 none, none⟩, ⟨.p 31 (.bin .sub) [.t 27, .t 30], none⟩, ⟨.p 32 (.bin .add) [.t 31, .c (.int 1)], none⟩, ⟨.p 33 .mov [.c (.int 0)], none⟩]) (.block 2 (.loop (.seq (.reg [⟨.p 34 (.bin .lss) [.t 33, .t 32], none⟩]) (.seq (.cond (.t 34) .skip (.exit 2)) (.seq (.block 3 (.seq (.reg [⟨.p 35 .mov [.t 33], none⟩, ⟨.p 9 .mov [.t 35], none⟩]) (.seq (.reg [⟨.la 37 5 none 0, none⟩, ⟨.lload 38 5 37 none, none⟩, ⟨.p 39 (.ia 5 1) [.c (.rptr [.fn 323 [] [], .fn 324 [] [], .fn 325 [] [], .fn 326 [] [], .fn 327 [] []] 0), .t 38], none⟩, ⟨.p 40 (.eload none) [.t 39], none⟩, ⟨.lwhole 41 8 (some 2), none⟩, ⟨.la 42 5 none 2, none⟩, ⟨.la 43 5 (some 42) 0, none⟩, ⟨.lload 44 5 43 none, none⟩, ⟨.p 45 .mov [.t 9], none⟩, ⟨.p 46 (.bin .add) [.t 44, .t 45], none⟩, ⟨.call (some 47) false (.t 40) [.t 41, .t 46], none⟩, ⟨.p 36 .mov [.t 47], none⟩, ⟨.p 48 (.ext 0) [.t 36], none⟩, ⟨.p 49 (.ext 1) [.t 36], none⟩, ⟨.lput 10 (some 2) (.c (.agg [.int 0, .int 0])), none⟩, ⟨.lset 10 (some 2) (.t 48), none⟩, ⟨.p 11 .mov [.t 49], none⟩]) (.seq (.seq (.reg [⟨.p 50 .mov [.t 11], none⟩, ⟨.p 51 .not [.t 50], none⟩]) (.cond (.t 51) (.exit 3) .skip)) (.reg [⟨.p 52 .mov [.t 7], none⟩, ⟨.lwhole 53 10 (some 2), none⟩, ⟨.mapset (.row [true, true]) (.t 52) (.t 53) (.c (.bool true)) none, none⟩]))))) (.reg [⟨.p 54 (.bin .add) [.t 33, .c (.int 1)], none⟩, ⟨.p 33 .mov [.t 54], none⟩])))))))))))))))) (.seq (.reg [⟨.p 55 .mov [.t 7], none⟩, ⟨.p 6 .mov [.t 55], none⟩]) .ret))))⟩
def F208 : PFunc := ⟨1, [.tmp 2], (.seq (.reg [⟨.rbox 1 (some 8) (.t 0), none⟩, ⟨.p 2 .mov [.c (.nilfn)], none⟩]) (.seq (.reg [⟨.p 3 (.mkfn 251 0) [.t 1], none⟩, ⟨.p 2 .mov [.t 3], none⟩]) .ret))⟩
def F209 : PFunc := ⟨2, [.tmp 4], (.seq (.reg [⟨.p 4 .mov [.c (.int 0)], none⟩]) (.seq (.seq (.reg [⟨.p 7 .mov [.t 1], none⟩, ⟨.p 8 .len [.t 7], none⟩, ⟨.p 9 .mov [.c (.int 0)], none⟩]) (.block 0 (.loop (.seq (.reg [⟨.p 10 (.bin .lss) [.t 9, .t 8], none⟩]) (.seq (.cond (.t 10) .skip (.exit 0)) (.seq (.block 1 (.seq (.reg [⟨.p 11 (.ea 1) [.t 7, .t 9], none⟩, ⟨.p 12 (.eload none) [.t 11], none⟩, ⟨.p 6 .mov [.t 12], none⟩]) (.reg [⟨.p 13 .mov [.t 0], none⟩, ⟨.p 14 .mov [.t 6], none⟩, ⟨.p 15 .min [.t 13, .t 14], none⟩, ⟨.p 0 .mov [.t 15], none⟩]))) (.reg [⟨.p 16 (.bin .add) [.t 9, .c (.int 1)], none⟩, ⟨.p 9 .mov [.t 16], none⟩]))))))) (.seq (.reg [⟨.p 17 .mov [.t 0], none⟩, ⟨.p 4 .mov [.t 17], none⟩]) .ret)))⟩
def F210 : PFunc := ⟨1, [.tmp 2], (.seq (.reg [⟨.p 2 .mov [.c (.int 0)], none⟩]) (.seq (.seq (.reg [⟨.p 5 .mov [.t 0], none⟩, ⟨.p 6 .len [.t 5], none⟩, ⟨.p 7 (.bin .lss) [.t 6, .c (.int 1)], none⟩]) (.cond (.t 7) (.reg [⟨.p 8 .mov [.c (.undef)], none⟩, ⟨.fail, none⟩]) .skip)) (.seq (.reg [⟨.p 9 .mov [.t 0], none⟩, ⟨.p 10 (.ea 1) [.t 9, .c (.int 0)], none⟩, ⟨.p 11 (.eload none) [.t 10], none⟩, ⟨.p 3 .mov [.t 11], none⟩]) (.seq (.seq (.reg [⟨.p 4 .mov [.c (.int 1)], none⟩]) (.block 0 (.loop (.seq (.seq (.reg [⟨.p 12 .mov [.t 4], none⟩, ⟨.p 13 .mov [.t 0], none⟩, ⟨.p 14 .len [.t 13], none⟩, ⟨.p 15 (.bin .lss) [.t 12, .t 14], none⟩]) (.cond (.t 15) .skip (.exit 0))) (.seq (.block 1 (.reg [⟨.p 18 .mov [.t 3], none⟩, ⟨.p 19 .mov [.t 0], none⟩, ⟨.p 20 .mov [.t 4], none⟩, ⟨.p 21 (.ea 1) [.t 19, .t 20], none⟩, ⟨.p 22 (.eload none) [.t 21], none⟩, ⟨.p 23 .max [.t 18, .t 22], none⟩, ⟨.p 3 .mov [.t 23], none⟩])) (.reg [⟨.p 16 .mov [.t 4], none⟩, ⟨.p 17 (.bin .add) [.t 16, .c (.int 1)], none⟩, ⟨.p 4 .mov [.t 17], none⟩])))))) (.seq (.reg [⟨.p 24 .mov [.t 3], none⟩, ⟨.p 2 .mov [.t 24], none⟩]) .ret)))))⟩
def F214 : PFunc := ⟨2, [.tmp 4], (.seq (.reg [⟨.p 4 .mov [.c (.int 0)], none⟩]) (.seq (.seq (.reg [⟨.p 6 .mov [.t 0], none⟩, ⟨.p 7 .len [.t 6], none⟩, ⟨.p 8 .mov [.c (.int 0)], none⟩]) (.block 0 (.loop (.seq (.reg [⟨.p 9 (.bin .lss) [.t 8, .t 7], none⟩]) (.seq (.cond (.t 9) .skip (.exit 0)) (.seq (.block 1 (.seq (.reg [⟨.p 10 .mov [.t 8], none⟩, ⟨.p 5 .mov [.t 10], none⟩]) (.seq (.reg [⟨.p 11 .mov [.t 1], none⟩, ⟨.p 12 .mov [.t 0], none⟩, ⟨.p 13 .mov [.t 5], none⟩, ⟨.p 14 (.ea 1) [.t 12, .t 13], none⟩, ⟨.p 15 (.eload none) [.t 14], none⟩, ⟨.p 16 (.eq false .num) [.t 11, .t 15], none⟩]) (.cond (.t 16) (.seq (.reg [⟨.p 17 .mov [.t 5], none⟩, ⟨.p 4 .mov [.t 17], none⟩]) .ret) .skip)))) (.reg [⟨.p 18 (.bin .add) [.t 8, .c (.int 1)], none⟩, ⟨.p 8 .mov [.t 18], none⟩]))))))) (.seq (.reg [⟨.p 4 .mov [.c (.int (-1))], none⟩]) .ret)))⟩
def F250 : PFunc := ⟨5, [.tmp 8], (.seq (.reg [⟨.p 8 .mov [.c (.bool false)], none⟩]) (.seq (.seq (.reg [⟨.p 9 .mov [.t 2], none⟩, ⟨.p 10 (.fa 0) [.t 3], none⟩, ⟨.p 11 (.fa 2) [.t 10], none⟩, ⟨.p 12 (.eload none) [.t 11], none⟩, ⟨.p 13 .len [.t 12], none⟩, ⟨.p 14 (.eq false .num) [.t 9, .t 13], none⟩, ⟨.p 15 .mov [.t 14], none⟩, ⟨.p 16 .mov [.t 0], some (15, false)⟩, ⟨.mlen 17 (.t 16), some (15, false)⟩, ⟨.p 18 (.eq false .num) [.t 17, .c (.int 0)], some (15, false)⟩, ⟨.p 19 .pick [.t 15, .c (.bool true), .t 18], none⟩]) (.cond (.t 19) (.seq (.reg [⟨.p 20 .mov [.t 0], none⟩, ⟨.mlen 21 (.t 20), none⟩, ⟨.p 22 (.bin .gtr) [.t 21, .c (.int 0)], none⟩, ⟨.p 8 .mov [.t 22], none⟩]) .ret) .skip)) (.seq (.reg [⟨.load 23 none (.t 4), none⟩, ⟨.p 24 .mov [.t 0], none⟩, ⟨.p 25 .mov [.t 1], none⟩, ⟨.p 26 (.fa 0) [.t 3], none⟩, ⟨.p 27 (.fa 2) [.t 26], none⟩, ⟨.p 28 (.eload none) [.t 27], none⟩, ⟨.p 29 .mov [.t 2], none⟩, ⟨.p 30 (.ea 4) [.t 28, .t 29], none⟩, ⟨.p 31 (.eload (some 4)) [.t 30], none⟩, ⟨.call (some 32) true (.c (.fn 207 [] [])) [.t 24, .t 25, .t 31], none⟩, ⟨.p 33 (.fa 0) [.t 3], none⟩, ⟨.p 34 (.fa 2) [.t 33], none⟩, ⟨.p 35 (.eload none) [.t 34], none⟩, ⟨.p 36 .mov [.t 2], none⟩, ⟨.p 37 (.ea 4) [.t 35, .t 36], none⟩, ⟨.p 38 (.fa 1) [.t 37], none⟩, ⟨.p 39 (.eload none) [.t 38], none⟩, ⟨.p 40 .mov [.t 2], none⟩, ⟨.p 41 (.bin .add) [.t 40, .c (.int 1)], none⟩, ⟨.call (some 42) false (.t 23) [.t 32, .t 39, .t 41], none⟩, ⟨.p 8 .mov [.t 42], none⟩]) .ret)))⟩
def F251 : PFunc := ⟨2, [], (.seq (.reg [⟨.p 4 (.fa 0) [.t 1], none⟩, ⟨.p 5 (.fa 0) [.t 4], none⟩, ⟨.p 6 (.fa 1) [.t 5], none⟩, ⟨.p 7 (.eload none) [.t 6], none⟩, ⟨.p 8 (.fa 0) [.t 1], none⟩, ⟨.p 9 (.fa 0) [.t 8], none⟩, ⟨.p 10 (.fa 0) [.t 9], none⟩, ⟨.p 11 (.eload none) [.t 10], none⟩, ⟨.p 12 (.bin .sub) [.t 7, .t 11], none⟩, ⟨.p 13 (.bin .add) [.t 12, .c (.int 1)], none⟩, ⟨.p 14 .mov [.c (.int 0)], none⟩]) (.block 0 (.loop (.seq (.reg [⟨.p 15 (.bin .lss) [.t 14, .t 13], none⟩]) (.seq (.cond (.t 15) .skip (.exit 0)) (.seq (.block 1 (.seq (.reg [⟨.p 16 .mov [.t 14], none⟩, ⟨.p 3 .mov [.t 16], none⟩]) (.seq (.reg [⟨.p 17 .mov [.t 0], none⟩, ⟨.p 18 (.fa 0) [.t 1], none⟩, ⟨.p 19 (.fa 0) [.t 18], none⟩, ⟨.p 20 (.fa 0) [.t 19], none⟩, ⟨.p 21 (.eload none) [.t 20], none⟩, ⟨.p 22 .mov [.t 3], none⟩, ⟨.p 23 (.bin .add) [.t 21, .t 22], none⟩, ⟨.p 24 (.build [.int 0, .int 0] [(0, 1)]) [.t 23], none⟩, ⟨.call (some 25) false (.t 17) [.t 24], none⟩, ⟨.p 26 .not [.t 25], none⟩]) (.cond (.t 26) .ret .skip)))) (.reg [⟨.p 27 (.bin .add) [.t 14, .c (.int 1)], none⟩, ⟨.p 14 .mov [.t 27], none⟩])))))))⟩
def F323 : PFunc := ⟨2, [.loc 4 (some 2), .tmp 5], (.seq (.reg [⟨.lput 2 (some 2) (.t 0), none⟩, ⟨.lput 4 (some 2) (.c (.agg [.int 0, .int 0])), none⟩, ⟨.p 5 .mov [.c (.bool false)], none⟩]) (.seq (.reg [⟨.la 6 2 none 0, none⟩, ⟨.lload 7 2 6 none, none⟩, ⟨.p 8 .mov [.t 1], none⟩, ⟨.p 9 (.bin .sub) [.t 7, .t 8], none⟩, ⟨.la 10 2 none 1, none⟩, ⟨.lload 11 2 10 none, none⟩, ⟨.p 12 (.build [.int 0, .int 0] [(0, 1), (1, 1)]) [.t 9, .t 11], none⟩, ⟨.p 13 .mov [.t 1], none⟩, ⟨.la 14 2 none 0, none⟩, ⟨.lload 15 2 14 none, none⟩, ⟨.p 16 (.bin .leq) [.t 13, .t 15], none⟩, ⟨.lset 4 (some 2) (.t 12), none⟩, ⟨.p 5 .mov [.t 16], none⟩]) .ret))⟩
def F324 : PFunc := ⟨2, [.loc 4 (some 2), .tmp 5], (.seq (.reg [⟨.lput 2 (some 2) (.t 0), none⟩, ⟨.lput 4 (some 2) (.c (.agg [.int 0, .int 0])), none⟩, ⟨.p 5 .mov [.c (.bool false)], none⟩]) (.seq (.reg [⟨.la 6 2 none 0, none⟩, ⟨.lload 7 2 6 none, none⟩, ⟨.la 8 2 none 1, none⟩, ⟨.lload 9 2 8 none, none⟩, ⟨.p 10 .mov [.t 1], none⟩, ⟨.p 11 (.bin .add) [.t 9, .t 10], none⟩, ⟨.p 12 (.build [.int 0, .int 0] [(0, 1), (1, 1)]) [.t 7, .t 11], none⟩, ⟨.lset 4 (some 2) (.t 12), none⟩, ⟨.p 5 .mov [.c (.bool true)], none⟩]) .ret))⟩
def F325 : PFunc := ⟨2, [.loc 4 (some 2), .tmp 5], (.seq (.reg [⟨.lput 2 (some 2) (.t 0), none⟩, ⟨.lput 4 (some 2) (.c (.agg [.int 0, .int 0])), none⟩, ⟨.p 5 .mov [.c (.bool false)], none⟩]) (.seq (.reg [⟨.la 6 2 none 0, none⟩, ⟨.lload 7 2 6 none, none⟩, ⟨.p 8 (.build [.int 0, .int 0] [(0, 1), (1, 1)]) [.t 7, .c (.int 0)], none⟩, ⟨.lset 4 (some 2) (.t 8), none⟩, ⟨.p 5 .mov [.c (.bool true)], none⟩]) .ret))⟩
def F326 : PFunc := ⟨2, [.loc 4 (some 2), .tmp 5], (.seq (.reg [⟨.lput 2 (some 2) (.t 0), none⟩, ⟨.lput 4 (some 2) (.c (.agg [.int 0, .int 0])), none⟩, ⟨.p 5 .mov [.c (.bool false)], none⟩]) (.seq (.reg [⟨.la 6 2 none 0, none⟩, ⟨.lload 7 2 6 none, none⟩, ⟨.p 8 .mov [.t 1], none⟩, ⟨.p 9 (.bin .sub) [.t 7, .t 8], none⟩, ⟨.p 10 .max [.c (.int 0), .t 9], none⟩, ⟨.la 11 2 none 1, none⟩, ⟨.lload 12 2 11 none, none⟩, ⟨.p 13 (.build [.int 0, .int 0] [(0, 1), (1, 1)]) [.t 10, .t 12], none⟩, ⟨.lset 4 (some 2) (.t 13), none⟩, ⟨.p 5 .mov [.c (.bool true)], none⟩]) .ret))⟩
def F327 : PFunc := ⟨2, [.loc 4 (some 2), .tmp 5], (.seq (.reg [⟨.lput 2 (some 2) (.t 0), none⟩, ⟨.lput 4 (some 2) (.c (.agg [.int 0, .int 0])), none⟩, ⟨.p 5 .mov [.c (.bool false)], none⟩]) (.seq (.reg [⟨.lwhole 6 2 (some 2), none⟩, ⟨.p 7 .mov [.t 1], none⟩, ⟨.la 8 2 none 0, none⟩, ⟨.lload 9 2 8 none, none⟩, ⟨.p 10 (.eq false .num) [.t 7, .t 9], none⟩, ⟨.lset 4 (some 2) (.t 6), none⟩, ⟨.p 5 .mov [.t 10], none⟩]) .ret))⟩
def tab : List (Nat × PFunc) := [(3, F3), (4, F4), (5, F5), (6, F6), (7, F7), (27, F27), (29, F29), (30, F30), (31, F31), (33, F33), (35, F35), (37, F37), (38, F38), (40, F40), (42, F42), (44, F44), (46, F46), (47, F47), (48, F48), (49, F49), (50, F50), (51, F51), (52, F52), (53, F53), (54, F54), (68, F68), (72, F72), (73, F73), (74, F74), (75, F75), (76, F76), (101, F101), (104, F104), (110, F110), (111, F111), (113, F113), (114, F114), (115, F115), (116, F116), (117, F117), (118, F118), (119, F119), (122, F122), (123, F123), (126, F126), (128, F128), (129, F129), (130, F130), (131, F131), (135, F135), (136, F136), (138, F138), (139, F139), (141, F141), (180, F180), (202, F202), (203, F203), (204, F204), (205, F205), (206, F206), (207, F207), (208, F208), (209, F209), (210, F210), (214, F214), (250, F250), (251, F251), (323, F323), (324, F324), (325, F325), (326, F326), (327, F327)]
def prog : PProg := look tab
theorem p3 : prog 3 = some F3 := rfl
theorem p4 : prog 4 = some F4 := rfl
theorem p5 : prog 5 = some F5 := rfl
theorem p6 : prog 6 = some F6 := rfl
theorem p7 : prog 7 = some F7 := rfl
theorem p27 : prog 27 = some F27 := rfl
theorem p29 : prog 29 = some F29 := rfl
theorem p30 : prog 30 = some F30 := rfl
theorem p31 : prog 31 = some F31 := rfl
theorem p33 : prog 33 = some F33 := rfl
theorem p35 : prog 35 = some F35 := rfl
theorem p37 : prog 37 = some F37 := rfl
theorem p38 : prog 38 = some F38 := rfl
theorem p40 : prog 40 = some F40 := rfl
theorem p42 : prog 42 = some F42 := rfl
theorem p44 : prog 44 = some F44 := rfl
theorem p46 : prog 46 = some F46 := rfl
theorem p47 : prog 47 = some F47 := rfl
theorem p48 : prog 48 = some F48 := rfl
theorem p49 : prog 49 = some F49 := rfl
theorem p50 : prog 50 = some F50 := rfl
theorem p51 : prog 51 = some F51 := rfl
theorem p52 : prog 52 = some F52 := rfl
theorem p53 : prog 53 = some F53 := rfl
theorem p54 : prog 54 = some F54 := rfl
theorem p68 : prog 68 = some F68 := rfl
theorem p72 : prog 72 = some F72 := rfl
theorem p73 : prog 73 = some F73 := rfl
theorem p74 : prog 74 = some F74 := rfl
theorem p75 : prog 75 = some F75 := rfl
theorem p76 : prog 76 = some F76 := rfl
theorem p101 : prog 101 = some F101 := rfl
theorem p104 : prog 104 = some F104 := rfl
theorem p110 : prog 110 = some F110 := rfl
theorem p111 : prog 111 = some F111 := rfl
theorem p113 : prog 113 = some F113 := rfl
theorem p114 : prog 114 = some F114 := rfl
theorem p115 : prog 115 = some F115 := rfl
theorem p116 : prog 116 = some F116 := rfl
theorem p117 : prog 117 = some F117 := rfl
theorem p118 : prog 118 = some F118 := rfl
theorem p119 : prog 119 = some F119 := rfl
theorem p122 : prog 122 = some F122 := rfl
theorem p123 : prog 123 = some F123 := rfl
theorem p126 : prog 126 = some F126 := rfl
theorem p128 : prog 128 = some F128 := rfl
theorem p129 : prog 129 = some F129 := rfl
theorem p130 : prog 130 = some F130 := rfl
theorem p131 : prog 131 = some F131 := rfl
theorem p135 : prog 135 = some F135 := rfl
theorem p136 : prog 136 = some F136 := rfl
theorem p138 : prog 138 = some F138 := rfl
theorem p139 : prog 139 = some F139 := rfl
theorem p141 : prog 141 = some F141 := rfl
theorem p180 : prog 180 = some F180 := rfl
theorem p202 : prog 202 = some F202 := rfl
theorem p203 : prog 203 = some F203 := rfl
theorem p204 : prog 204 = some F204 := rfl
theorem p205 : prog 205 = some F205 := rfl
theorem p206 : prog 206 = some F206 := rfl
theorem p207 : prog 207 = some F207 := rfl
theorem p208 : prog 208 = some F208 := rfl
theorem p209 : prog 209 = some F209 := rfl
theorem p210 : prog 210 = some F210 := rfl
theorem p214 : prog 214 = some F214 := rfl
theorem p250 : prog 250 = some F250 := rfl
theorem p251 : prog 251 = some F251 := rfl
theorem p323 : prog 323 = some F323 := rfl
theorem p324 : prog 324 = some F324 := rfl
theorem p325 : prog 325 = some F325 := rfl
theorem p326 : prog 326 = some F326 := rfl
theorem p327 : prog 327 = some F327 := rfl
end Go.Hu.Sn

set_option linter.unusedVariables false
namespace Go.Hu.Sn

structure Note where
  kind : Int
  hour : Int
  lo : Int
  hi : Int
structure Book where
  lo : Int
  hi : Int
  notes : List Note

def most (k : Int) : Int := if k = 1 then 9 else if k = 2 then 0 else 400
def okSpan (lo hi m : Int) : Prop := 0 ≤ lo ∧ lo ≤ hi ∧ hi ≤ m ∧ hi - lo ≤ 12
instance {a b c : Int} : Decidable (okSpan a b c) := by unfold okSpan; infer_instance
def okNote (n : Note) : Prop := (0 ≤ n.kind ∧ n.kind ≤ 4) ∧ (0 ≤ n.hour ∧ n.hour ≤ 60) ∧ okSpan n.lo n.hi (most n.kind)
instance {n : Note} : Decidable (okNote n) := by unfold okNote; infer_instance
def okNotes : Int → List Note → Prop
  | _, [] => True
  | h, n :: ns => (okNote n ∧ h ≤ n.hour) ∧ okNotes n.hour ns
instance : ∀ (h : Int) (ns : List Note), Decidable (okNotes h ns)
  | _, [] => by unfold okNotes; infer_instance
  | h, n :: ns => by
    unfold okNotes
    have := instDecidableOkNotes n.hour ns
    infer_instance
def ok (b : Book) : Prop := okSpan b.lo b.hi 400 ∧ b.notes.length ≤ 8 ∧ okNotes 0 b.notes
instance {b : Book} : Decidable (ok b) := by unfold ok; infer_instance

/-- What a seine holds, and loses in an hour. -/
abbrev X := Int × Int
def pass (x : X) (h : Int) : X := (max 0 (x.1 - x.2 * h), x.2)
def does (k : Int) (x : X) (n : Int) : X × Bool :=
  if k = 0 then ((x.1 - n, x.2), decide (n ≤ x.1))
  else if k = 1 then ((x.1, x.2 + n), true)
  else if k = 2 then ((x.1, 0), true)
  else if k = 3 then ((max 0 (x.1 - n), x.2), true)
  else (x, decide (n = x.1))
abbrev XS := X → Prop
def step (S : XS) (h : Int) (n : Note) : XS := fun y => ∃ x, S x ∧ ∃ m, (n.lo ≤ m ∧ m ≤ n.hi) ∧ does n.kind (pass x (n.hour - h)) m = (y, true)
def run : XS → Int → List Note → XS
  | S, _, [] => S
  | S, h, n :: ns => run (step S h n) n.hour ns
def hourOf : Int → List Note → Int
  | h, [] => h
  | _, n :: ns => hourOf n.hour ns
def begun (b : Book) : XS := fun x => (b.lo ≤ x.1 ∧ x.1 ≤ b.hi) ∧ x.2 = 0
def can (b : Book) : Prop := ∃ x, run (begun b) 0 b.notes x
def before (h : Int) (ns : List Note) : List Note := ns.takeWhile fun n => decide (n.hour ≤ h)
def later (h : Int) (ns : List Note) : List Note := ns.dropWhile fun n => decide (n.hour ≤ h)
/-- The states at an hour, behind its notes, of all truths. -/
def atH (b : Book) (h : Int) : XS := fun y => (∃ x, run (begun b) 0 (before h b.notes) x ∧ y = pass x (h - hourOf 0 (before h b.notes))) ∧ ∃ z, run (· = y) h (later h b.notes) z
/-- Both ends of some numbers. -/
def Ends (S : Int → Prop) (lo hi : Int) : Prop := (S lo ∧ S hi) ∧ ∀ n, S n → lo ≤ n ∧ n ≤ hi
theorem Ends.unique {S : Int → Prop} {a b c d : Int} (h : Ends S a b) (h' : Ends S c d) : a = c ∧ b = d := by
  obtain ⟨⟨h1, h2⟩, h3⟩ := h
  obtain ⟨⟨h4, h5⟩, h6⟩ := h'
  have := h3 _ h4; have := h3 _ h5; have := h6 _ h1; have := h6 _ h2
  omega

theorem run_append : ∀ (a : List Note) (S : XS) (h : Int) (b : List Note), run S h (a ++ b) = run (run S h a) (hourOf h a) b
  | [], _, _, _ => rfl
  | n :: a, S, h, b => run_append a (step S h n) n.hour b
theorem hourOf_append : ∀ (a : List Note) (h : Int) (b : List Note), hourOf h (a ++ b) = hourOf (hourOf h a) b
  | [], _, _ => rfl
  | n :: a, h, b => hourOf_append a n.hour b
theorem okNotes_append : ∀ {a : List Note} {h : Int} {b : List Note}, okNotes h (a ++ b) ↔ okNotes h a ∧ okNotes (hourOf h a) b
  | [], _, _ => by simp [okNotes, hourOf]
  | n :: a, h, b => by
    have := okNotes_append (a := a) (h := n.hour) (b := b)
    simp only [List.cons_append, okNotes, hourOf, this, and_assoc]
/-- States' bounds: so many notes have gone by. -/
def Bd (k : Int) (S : XS) : Prop := ∀ x, S x → (0 ≤ x.1 ∧ x.1 ≤ 400) ∧ (0 ≤ x.2 ∧ x.2 ≤ 9 * k)
theorem pass_bd {k h : Int} {x : X} (hx : (0 ≤ x.1 ∧ x.1 ≤ 400) ∧ (0 ≤ x.2 ∧ x.2 ≤ 9 * k)) (hh : 0 ≤ h) : (0 ≤ (pass x h).1 ∧ (pass x h).1 ≤ 400) ∧ (0 ≤ (pass x h).2 ∧ (pass x h).2 ≤ 9 * k) := by
  have : 0 ≤ x.2 * h := Int.mul_nonneg hx.2.1 hh
  unfold pass
  simp only
  omega
theorem step_bd {k h : Int} {S : XS} {n : Note} (hS : Bd k S) (hk : 0 ≤ k) (hn : okNote n) (hh : h ≤ n.hour) : Bd (k + 1) (step S h n) := by
  rintro y ⟨x, hx, m, hm, hd⟩
  have hp := pass_bd (h := n.hour - h) (hS x hx) (by omega)
  obtain ⟨hk1, _, hsp⟩ := hn
  unfold okSpan most at hsp
  unfold does at hd
  generalize pass x (n.hour - h) = z at *
  have : n.kind = 0 ∨ n.kind = 1 ∨ n.kind = 2 ∨ n.kind = 3 ∨ n.kind = 4 := by omega
  rcases this with h | h | h | h | h <;> simp only [h] at hd hsp <;> simp at hd <;> obtain ⟨rfl, hd⟩ := hd <;> simp at hsp <;> (try simp only) <;> omega
theorem run_bd : ∀ {ns : List Note} {k h : Int} {S : XS}, Bd k S → 0 ≤ k → okNotes h ns → Bd (k + ns.length) (run S h ns)
  | [], k, h, S, hS, _, _ => by simpa [run] using hS
  | n :: ns, k, h, S, hS, hk, hn => by
    obtain ⟨⟨h1, h2⟩, h3⟩ := hn
    have := run_bd (step_bd hS hk h1 h2) (by omega) h3
    have e : k + 1 + (ns.length : Int) = k + ((n :: ns).length : Int) := by simp; omega
    rw [e] at this
    exact this
theorem begun_bd {b : Book} (h : okSpan b.lo b.hi 400) : Bd 0 (begun b) := by
  intro x hx
  unfold begun at hx
  unfold okSpan at h
  omega
theorem hourOf_le : ∀ {ns : List Note} {h : Int}, okNotes h ns → h ≤ hourOf h ns ∧ (h ≤ 60 → hourOf h ns ≤ 60)
  | [], h, _ => ⟨Int.le_refl _, id⟩
  | n :: ns, h, hn => by
    obtain ⟨⟨h1, h2⟩, h3⟩ := hn
    have := hourOf_le h3
    have h4 := h1.2.1
    refine ⟨by simp only [hourOf]; omega, fun _ => by simp only [hourOf]; omega⟩
theorem run_none : ∀ {ns : List Note} {S : XS} {h : Int}, (∀ x, ¬ S x) → ∀ x, ¬ run S h ns x
  | [], _, _, hS, x => hS x
  | n :: ns, S, h, hS, x => run_none (S := step S h n) (fun y ⟨z, hz, _⟩ => hS z hz) x
theorem before_later (h : Int) (ns : List Note) : before h ns ++ later h ns = ns := List.takeWhile_append_dropWhile
theorem before_all {h : Int} {ns : List Note} : ∀ n ∈ before h ns, n.hour ≤ h := fun n hn => by
  have := List.all_takeWhile (p := fun n : Note => decide (n.hour ≤ h)) (l := ns)
  have := List.all_eq_true.1 this n hn
  simpa using this
theorem later_first {h : Int} : ∀ {ns : List Note} {x : Note} {r : List Note}, later h ns = x :: r → h < x.hour
  | [], x, r, e => by simp [later] at e
  | n :: ns, x, r, e => by
    unfold later at e
    rw [List.dropWhile_cons] at e
    split at e
    · exact later_first (ns := ns) e
    · rename_i hn
      simp only [List.cons.injEq] at e
      obtain ⟨rfl, _⟩ := e
      simpa using hn
theorem hourOf_before {h : Int} : ∀ {ns : List Note} {h0 : Int}, h0 ≤ h → (∀ n ∈ ns, n.hour ≤ h) → hourOf h0 ns ≤ h
  | [], h0, hh, _ => hh
  | n :: ns, h0, hh, hn => by
    show hourOf n.hour ns ≤ h
    exact hourOf_before (hn n (by simp)) fun m hm => hn m (by simp [hm])
theorem okNotes_later {h h' : Int} : ∀ {ns : List Note}, okNotes h' ns → (∀ x r, ns = x :: r → h ≤ x.hour) → okNotes h ns
  | [], _, _ => trivial
  | x :: r, hn, hx => ⟨⟨hn.1.1, hx x r rfl⟩, hn.2⟩
theorem run_congr : ∀ (ns : List Note) {S T : XS} (h : Int), (∀ x, S x ↔ T x) → ∀ z, run S h ns z ↔ run T h ns z
  | [], S, T, h, hs, z => hs z
  | n :: ns, S, T, h, hs, z => run_congr ns (S := step S h n) (T := step T h n) n.hour (fun y => by unfold step; simp only [hs]) z
theorem run_single : ∀ {ns : List Note} {S : XS} {h : Int} {z : X}, run S h ns z ↔ ∃ x, S x ∧ run (· = x) h ns z
  | [], S, h, z => by
    simp only [run]
    exact ⟨fun hz => ⟨z, hz, rfl⟩, by rintro ⟨x, hx, rfl⟩; exact hx⟩
  | n :: ns, S, h, z => by
    simp only [run]
    rw [run_single (S := step S h n)]
    constructor
    · rintro ⟨y, ⟨x, hx, m, hm, hd⟩, hz⟩
      exact ⟨x, hx, run_single.2 ⟨y, ⟨x, rfl, m, hm, hd⟩, hz⟩⟩
    · rintro ⟨x, hx, hz⟩
      obtain ⟨y, ⟨x', hx', m, hm, hd⟩, hz2⟩ := run_single.1 hz
      exact ⟨y, ⟨x', by rw [hx']; exact hx, m, hm, hd⟩, hz2⟩
theorem pass_pass {x : X} {a b : Int} (hr : 0 ≤ x.2) (ha : 0 ≤ a) (hb : 0 ≤ b) : pass (pass x a) b = pass x (a + b) := by
  unfold pass
  simp only [Prod.mk.injEq, and_true]
  have h1 : 0 ≤ x.2 * a := Int.mul_nonneg hr ha
  have h2 : 0 ≤ x.2 * b := Int.mul_nonneg hr hb
  rw [Int.mul_add]
  omega
theorem pass_zero {x : X} (h : 0 ≤ x.1) : pass x 0 = x := by
  unfold pass
  ext <;> simp <;> omega
/-- A later start: what passes till then has passed. -/
theorem run_shift {ns : List Note} {x : X} {h0 h : Int} (hr : 0 ≤ x.2) (hh : h0 ≤ h) (hn : ∀ n r, ns = n :: r → h ≤ n.hour) (hne : ns ≠ []) (z : X) : run (· = pass x (h - h0)) h ns z ↔ run (· = x) h0 ns z := by
  cases ns with
  | nil => exact absurd rfl hne
  | cons n r =>
    have h1 := hn n r rfl
    simp only [run]
    refine run_congr r n.hour (fun y => ?_) z
    unfold step
    constructor
    · rintro ⟨_, rfl, m, hm, hd⟩
      refine ⟨x, rfl, m, hm, ?_⟩
      rw [pass_pass hr (by omega) (by omega)] at hd
      have : h - h0 + (n.hour - h) = n.hour - h0 := by omega
      rw [this] at hd
      exact hd
    · rintro ⟨_, rfl, m, hm, hd⟩
      refine ⟨_, rfl, m, hm, ?_⟩
      rw [pass_pass hr (by omega) (by omega)]
      have : h - h0 + (n.hour - h) = n.hour - h0 := by omega
      rw [this]
      exact hd
theorem run_split {b : Book} {h : Int} {z : X} : run (begun b) 0 b.notes z ↔ ∃ x, run (begun b) 0 (before h b.notes) x ∧ run (· = x) (hourOf 0 (before h b.notes)) (later h b.notes) z := by
  have := run_append (before h b.notes) (begun b) 0 (later h b.notes)
  rw [before_later] at this
  rw [this]
  exact run_single
end Go.Hu.Sn

set_option linter.unusedSimpArgs false
set_option linter.unusedVariables false
namespace Go.Hu.Sn
attribute [local irreducible] wpS wpIs wpI
attribute [local go_sem] Nat.mul_one Nat.one_mul Nat.zero_add Nat.add_zero Nat.zero_mul and_self and_true true_and decide_true decide_false Bool.false_eq_true if_true if_false Int.cast_ofNat_Int Int.zero_le_ofNat Int.le_refl Int.reduceLT Int.reduceLE Int.reduceToNat

def noteV (n : Note) : V := .agg [.int n.kind, .int n.hour, .int n.lo, .int n.hi]
def notesV (ns : List Note) : List V := ns.map noteV
def bookV (b : Book) : V := .agg [.int b.lo, .int b.hi, .lst (notesV b.notes) .any]
def xV (x : X) : V := .agg [.int x.1, .int x.2]
def I64 (n : Int) : Prop := -9223372036854775808 ≤ n ∧ n < 9223372036854775808

theorem notesV_length (ns : List Note) : (notesV ns).length = ns.length := by simp [notesV]
theorem eraseL_notes : ∀ ns : List Note, eraseL (notesV ns) = notesV ns
  | [] => by simp [notesV, eraseL]
  | n :: ns => by
    have := eraseL_notes ns
    simp only [notesV, List.map_cons, eraseL_cons] at this ⊢
    rw [this]
    simp [noteV, go_sem]
theorem erase_noteV (n : Note) : (noteV n).erase = noteV n := by simp [noteV, go_sem]
theorem erase_xV (x : X) : (xV x).erase = xV x := by simp [xV, go_sem]
theorem erase_bookV (b : Book) : (bookV b).erase = bookV b := by simp [bookV, go_sem, eraseL_notes]
theorem notesV_append (a b : List Note) : notesV (a ++ b) = notesV a ++ notesV b := by simp [notesV]
theorem hd_notes (ns : List Note) : hd (notesV ns) 4 = true := by cases ns <;> rfl
theorem fits_xV (x : X) : V.fits (some 2) (xV x) = true := rfl
theorem cells_xV (x : X) : (xV x).cells = [.int x.1, .int x.2] := rfl
theorem solid_xV (x : X) : (xV x).solid = true := rfl
attribute [go_sem] fits_xV cells_xV solid_xV eraseL_notes erase_noteV erase_xV erase_bookV

variable {s : St} {Q : V → St → Prop}

theorem c118 (a b c : Int) (h : Q (.bool (decide (b ≤ a ∧ a ≤ c))) s) : Call prog (.fn 118 [] []) [.int a, .int b, .int c] s Q := by
  refine Call.fn F118 p118 rfl ?_
  simp only [F118]
  by_cases h1 : b ≤ a
  · repeat first|refine Wr ?_|refine Wb ?_|refine Wc ?_|refine Wd ?_|refine We ?_|refine Wf ?_|refine Wg ?_|refine Wh ?_|refine Wi ?_|refine Wj (by decide) ?_|refine Wa ?_|refine Wk ?_|refine Wl ?_|refine Wm ?_|refine Wn ?_|refine Wo ?_|refine Wp ?_|refine Wq ?_|refine Ww (by simp only[go_sem,h1];done) ?_|((first|refine Ws ?_|refine Wt ?_|refine Wu ?_|refine Wv (by simp only[go_sem,h1];done) ?_);conv=>arg 2;simp only[go_sem,h1])
    first|refine w_retQ ?_|refine w_endQ ?_
    conv=>arg 1;simp only[go_sem]
    exact w_res (by simp [oneV_one, erase_bool, h1]) h
  · repeat first|refine Wr ?_|refine Wb ?_|refine Wc ?_|refine Wd ?_|refine We ?_|refine Wf ?_|refine Wg ?_|refine Wh ?_|refine Wi ?_|refine Wj (by decide) ?_|refine Wa ?_|refine Wk ?_|refine Wl ?_|refine Wm ?_|refine Wn ?_|refine Wo ?_|refine Wp ?_|refine Wq ?_|refine Ww (by simp only[go_sem,h1];done) ?_|((first|refine Ws ?_|refine Wt ?_|refine Wu ?_|refine Wv (by simp only[go_sem,h1];done) ?_);conv=>arg 2;simp only[go_sem,h1])
    first|refine w_retQ ?_|refine w_endQ ?_
    conv=>arg 1;simp only[go_sem]
    exact w_res (by simp [oneV_one, erase_bool, h1]) h

theorem c113 (lo hi high : Int) (hh : 0 ≤ high ∧ high ≤ 1000) (h : Q (.bool (decide (okSpan lo hi high))) s) : Call prog (.fn 113 [] []) [.agg [.int lo, .int hi], .int high] s Q := by
  refine Call.fn F113 p113 rfl ?_
  simp only [F113]
  by_cases h1 : 0 ≤ lo
  · by_cases h2 : lo ≤ hi
    · by_cases h3 : hi ≤ high
      · have hw : w64 (hi - lo) = hi - lo := w64_id (by omega)
        repeat first|refine Wr ?_|refine Wb ?_|refine Wc ?_|refine Wd ?_|refine We ?_|refine Wf ?_|refine Wg ?_|refine Wh ?_|refine Wi ?_|refine Wj (by decide) ?_|refine Wa ?_|refine Wk ?_|refine Wl ?_|refine Wm ?_|refine Wn ?_|refine Wo ?_|refine Wp ?_|refine Wq ?_|refine Ww (by simp only[go_sem,h1,h2,h3,hw];done) ?_|((first|refine Ws ?_|refine Wt ?_|refine Wu ?_|refine Wv (by simp only[go_sem,h1,h2,h3,hw];done) ?_);conv=>arg 2;simp only[go_sem,h1,h2,h3,hw])
        first|refine w_retQ ?_|refine w_endQ ?_
        conv=>arg 1;simp only[go_sem]
        exact w_res (by simp [oneV_one, erase_bool, okSpan, h1, h2, h3]) h
      · repeat first|refine Wr ?_|refine Wb ?_|refine Wc ?_|refine Wd ?_|refine We ?_|refine Wf ?_|refine Wg ?_|refine Wh ?_|refine Wi ?_|refine Wj (by decide) ?_|refine Wa ?_|refine Wk ?_|refine Wl ?_|refine Wm ?_|refine Wn ?_|refine Wo ?_|refine Wp ?_|refine Wq ?_|refine Ww (by simp only[go_sem,h1,h2,h3];done) ?_|((first|refine Ws ?_|refine Wt ?_|refine Wu ?_|refine Wv (by simp only[go_sem,h1,h2,h3];done) ?_);conv=>arg 2;simp only[go_sem,h1,h2,h3])
        first|refine w_retQ ?_|refine w_endQ ?_
        conv=>arg 1;simp only[go_sem]
        exact w_res (by simp [oneV_one, erase_bool, okSpan, h1, h2, h3]) h
    · repeat first|refine Wr ?_|refine Wb ?_|refine Wc ?_|refine Wd ?_|refine We ?_|refine Wf ?_|refine Wg ?_|refine Wh ?_|refine Wi ?_|refine Wj (by decide) ?_|refine Wa ?_|refine Wk ?_|refine Wl ?_|refine Wm ?_|refine Wn ?_|refine Wo ?_|refine Wp ?_|refine Wq ?_|refine Ww (by simp only[go_sem,h1,h2];done) ?_|((first|refine Ws ?_|refine Wt ?_|refine Wu ?_|refine Wv (by simp only[go_sem,h1,h2];done) ?_);conv=>arg 2;simp only[go_sem,h1,h2])
      first|refine w_retQ ?_|refine w_endQ ?_
      conv=>arg 1;simp only[go_sem]
      exact w_res (by simp [oneV_one, erase_bool, okSpan, h1, h2]) h
  · repeat first|refine Wr ?_|refine Wb ?_|refine Wc ?_|refine Wd ?_|refine We ?_|refine Wf ?_|refine Wg ?_|refine Wh ?_|refine Wi ?_|refine Wj (by decide) ?_|refine Wa ?_|refine Wk ?_|refine Wl ?_|refine Wm ?_|refine Wn ?_|refine Wo ?_|refine Wp ?_|refine Wq ?_|refine Ww (by simp only[go_sem,h1];done) ?_|((first|refine Ws ?_|refine Wt ?_|refine Wu ?_|refine Wv (by simp only[go_sem,h1];done) ?_);conv=>arg 2;simp only[go_sem,h1])
    first|refine w_retQ ?_|refine w_endQ ?_
    conv=>arg 1;simp only[go_sem]
    exact w_res (by simp [oneV_one, erase_bool, okSpan, h1]) h

theorem most_cases {k : Int} (h : 0 ≤ k ∧ k ≤ 4) : ([.int 400, .int 9, .int 0, .int 400, .int 400] : List V)[k.toNat]? = some (.int (most k)) := by
  have : k = 0 ∨ k = 1 ∨ k = 2 ∨ k = 3 ∨ k = 4 := by omega
  rcases this with rfl | rfl | rfl | rfl | rfl <;> rfl
theorem most_le (k : Int) : 0 ≤ most k ∧ most k ≤ 1000 := by unfold most; split <;> (try split) <;> omega

theorem c114 (n : Note) (h : Q (.bool (decide (okNote n))) s) : Call prog (.fn 114 [] []) [noteV n] s Q := by
  refine Call.fn F114 p114 rfl ?_
  simp only [F114, noteV]
  have hml := most_le n.kind
  by_cases h1 : 0 ≤ n.kind ∧ n.kind ≤ 4
  · have h1' : 0 ≤ n.kind ∧ n.kind < 5 := by omega
    have hm := most_cases h1
    by_cases h2 : 0 ≤ n.hour ∧ n.hour ≤ 60
    · repeat first|refine Wr ?_|refine Wb ?_|refine Wc ?_|refine Wd ?_|refine We ?_|refine Wf ?_|refine Wg ?_|refine Wh ?_|refine Wi ?_|refine Wj (by decide) ?_|refine Wa ?_|refine Wk ?_|refine Wl ?_|refine Wm ?_|refine Wn ?_|refine Wo ?_|refine Wp ?_|refine Wq ?_|refine Ww (by simp only[go_sem,h1,h2,h1',hm];done) ?_|((first|refine Ws ?_|refine Wt ?_|refine Wu ?_|refine Wv (by simp only[go_sem,h1,h2,h1',hm];done) ?_);conv=>arg 2;simp only[go_sem,h1,h2,h1',hm])|(refine Wx (by simp only[go_sem,h1,h2,h1',hm];rfl) (by simp only[go_sem,h1,h2,h1',hm];rfl) ?_;first|refine c118 _ _ _ ?_|refine c113 _ _ _ hml ?_)
      first|refine w_retQ ?_|refine w_endQ ?_
      conv=>arg 1;simp only[go_sem]
      exact w_res (by simp [oneV_one, erase_bool, okNote, h1, h2]) h
    · repeat first|refine Wr ?_|refine Wb ?_|refine Wc ?_|refine Wd ?_|refine We ?_|refine Wf ?_|refine Wg ?_|refine Wh ?_|refine Wi ?_|refine Wj (by decide) ?_|refine Wa ?_|refine Wk ?_|refine Wl ?_|refine Wm ?_|refine Wn ?_|refine Wo ?_|refine Wp ?_|refine Wq ?_|refine Ww (by simp only[go_sem,h1,h2,h1',hm];done) ?_|((first|refine Ws ?_|refine Wt ?_|refine Wu ?_|refine Wv (by simp only[go_sem,h1,h2,h1',hm];done) ?_);conv=>arg 2;simp only[go_sem,h1,h2,h1',hm])|(refine Wx (by simp only[go_sem,h1,h2,h1',hm];rfl) (by simp only[go_sem,h1,h2,h1',hm];rfl) ?_;first|refine c118 _ _ _ ?_|refine c113 _ _ _ hml ?_)
      first|refine w_retQ ?_|refine w_endQ ?_
      conv=>arg 1;simp only[go_sem]
      exact w_res (by simp [oneV_one, erase_bool, okNote, h1, h2]) h
  · repeat first|refine Wr ?_|refine Wb ?_|refine Wc ?_|refine Wd ?_|refine We ?_|refine Wf ?_|refine Wg ?_|refine Wh ?_|refine Wi ?_|refine Wj (by decide) ?_|refine Wa ?_|refine Wk ?_|refine Wl ?_|refine Wm ?_|refine Wn ?_|refine Wo ?_|refine Wp ?_|refine Wq ?_|refine Ww (by simp only[go_sem,h1];done) ?_|((first|refine Ws ?_|refine Wt ?_|refine Wu ?_|refine Wv (by simp only[go_sem,h1];done) ?_);conv=>arg 2;simp only[go_sem,h1])|(refine Wx (by simp only[go_sem,h1];rfl) (by simp only[go_sem,h1];rfl) ?_;refine c118 _ _ _ ?_)
    first|refine w_retQ ?_|refine w_endQ ?_
    conv=>arg 1;simp only[go_sem]
    exact w_res (by simp [oneV_one, erase_bool, okNote, h1]) h

theorem c117 (a : Int) (h : Q (.bool (decide (0 ≤ a ∧ a ≤ 60))) s) : Call prog (.fn 117 [] []) [.int a] s Q := by
  refine Call.fn F117 p117 rfl ?_
  simp only [F117]
  repeat first|refine Wr ?_|refine Wb ?_|refine Wc ?_|refine Wd ?_|refine We ?_|refine Wf ?_|refine Wg ?_|refine Wh ?_|refine Wi ?_|refine Wj (by decide) ?_|refine Wa ?_|refine Wk ?_|refine Wl ?_|refine Wm ?_|refine Wn ?_|refine Wo ?_|refine Wp ?_|refine Wq ?_|refine Ww (by simp only[go_sem];done) ?_|((first|refine Ws ?_|refine Wt ?_|refine Wu ?_|refine Wv (by simp only[go_sem];done) ?_);conv=>arg 2;simp only[go_sem])|(refine Wx (by simp only[go_sem];rfl) (by simp only[go_sem];rfl) ?_;refine c118 _ _ _ ?_)
  first|refine w_retQ ?_|refine w_endQ ?_
  conv=>arg 1;simp only[go_sem]
  exact w_res rfl h

theorem notesV_at {a b : List Note} {x : Note} : (notesV (a ++ x :: b))[((a.length : Int)).toNat]? = some (noteV x) := by simp [notesV]
theorem noteV_cells (x : Note) : (noteV x).cells.length = 4 := rfl
theorem len_nonneg {α : Type} (a : List α) : 0 ≤ (a.length : Int) := by omega

set_option maxHeartbeats 2000000 in
theorem c29 (b : Book) (hlen : (b.notes.length : Int) < 9223372036854775808) (h : Q (.int (if ok b then 0 else 30)) s) : Call prog (.fn 29 [] []) [bookV b] s Q := by
  refine Call.fn F29 p29 rfl ?_
  simp only [F29, bookV]
  by_cases h1 : okSpan b.lo b.hi 400 <;> by_cases h2 : ((b.notes.length : Int) ≤ 8)
  all_goals
    repeat first|refine Wr ?_|refine Wb ?_|refine Wc ?_|refine Wd ?_|refine We ?_|refine Wf ?_|refine Wg ?_|refine Wh ?_|refine Wi ?_|refine Wj (by decide) ?_|refine Wa ?_|refine Wk ?_|refine Wl ?_|refine Wm ?_|refine Wn ?_|refine Wo ?_|refine Wp ?_|refine Wq ?_|refine Ww (by simp only[go_sem,h1,h2,notesV_length];done) ?_|((first|refine Ws ?_|refine Wt ?_|refine Wu ?_|refine Wv (by simp only[go_sem,h1,h2,notesV_length];done) ?_);conv=>arg 2;simp only[go_sem,h1,h2,notesV_length])|(refine Wx (by simp only[go_sem,h1,h2,notesV_length];rfl) (by simp only[go_sem,h1,h2,notesV_length];rfl) ?_;refine c113 _ _ _ (by omega) ?_)
    refine w_iter (fun n e s' => ∃ (a r : List Note) (hr : Int) (okb : Bool), b.notes = a ++ r ∧ r.length = n ∧ e 1 = .agg [.int b.lo, .int b.hi, .lst (notesV b.notes) .any] ∧ e 17 = .lst (notesV b.notes) .any ∧ e 18 = .int b.notes.length ∧ e 19 = .int a.length ∧ e 3 = .bool okb ∧ e 4 = .int hr ∧ s' = s ∧ (ok b ↔ okb = true ∧ okNotes hr r)) b.notes.length ?_ ?_
    · refine ⟨[], b.notes, 0, decide (okSpan b.lo b.hi 400 ∧ (b.notes.length : Int) ≤ 8), rfl, rfl, ?_, ?_, ?_, ?_, ?_, ?_, rfl, ?_⟩
      any_goals (simp only [go_sem, notesV_length, h1, h2, decide_true, decide_false, and_self, and_true, and_false, List.length_nil, Int.ofNat_zero, Int.natCast_zero]; done)
      · simp only [ok, decide_eq_true_eq]
        constructor
        · rintro ⟨h3, h4, h5⟩; exact ⟨⟨h3, by omega⟩, h5⟩
        · rintro ⟨⟨h3, h4⟩, h5⟩; exact ⟨h3, by omega, h5⟩
    · rintro n e s' ⟨a, r, hr, okb, hab, hrn, e1, e17, e18, e19, e3, e4, rfl, hok⟩
      cases r with
      | nil =>
        have hl : ¬ ((a.length : Int) < (b.notes.length : Int)) := by rw [hab]; simp
        repeat first|refine Wr ?_|refine Wb ?_|refine Wc ?_|refine Wd ?_|refine We ?_|refine Wf ?_|refine Wg ?_|refine Wh ?_|refine Wi ?_|refine Wj (by decide) ?_|refine Wa ?_|refine Wk ?_|refine Wl ?_|refine Wm ?_|refine Wn ?_|refine Wo ?_|refine Wp ?_|refine Wq ?_|refine Ww (by simp only[go_sem,e1,e17,e18,e19,e3,e4,hl];done) ?_|((first|refine Ws ?_|refine Wt ?_|refine Wu ?_|refine Wv (by simp only[go_sem,e1,e17,e18,e19,e3,e4,hl];done) ?_);conv=>arg 2;simp only[go_sem,e1,e17,e18,e19,e3,e4,hl])
        have hfin : ok b ↔ okb = true := by rw [hok]; simp [okNotes]
        cases okb with
        | true =>
          repeat first|refine Wr ?_|refine Wb ?_|refine Wc ?_|refine Wd ?_|refine We ?_|refine Wf ?_|refine Wg ?_|refine Wh ?_|refine Wi ?_|refine Wj (by decide) ?_|refine Wa ?_|refine Wk ?_|refine Wl ?_|refine Wm ?_|refine Wn ?_|refine Wo ?_|refine Wp ?_|refine Wq ?_|refine Ww (by simp only[go_sem,e1,e17,e18,e19,e3,e4,hl,Bool.not_true];done) ?_|((first|refine Ws ?_|refine Wt ?_|refine Wu ?_|refine Wv (by simp only[go_sem,e1,e17,e18,e19,e3,e4,hl,Bool.not_true];done) ?_);conv=>arg 2;simp only[go_sem,e1,e17,e18,e19,e3,e4,hl,Bool.not_true])
          first|refine w_retQ ?_|refine w_endQ ?_
          conv=>arg 1;simp only[go_sem]
          exact w_res rfl (by simpa [hfin, oneV_one, erase_int] using h)
        | false =>
          repeat first|refine Wr ?_|refine Wb ?_|refine Wc ?_|refine Wd ?_|refine We ?_|refine Wf ?_|refine Wg ?_|refine Wh ?_|refine Wi ?_|refine Wj (by decide) ?_|refine Wa ?_|refine Wk ?_|refine Wl ?_|refine Wm ?_|refine Wn ?_|refine Wo ?_|refine Wp ?_|refine Wq ?_|refine Ww (by simp only[go_sem,e1,e17,e18,e19,e3,e4,hl,Bool.not_false];done) ?_|((first|refine Ws ?_|refine Wt ?_|refine Wu ?_|refine Wv (by simp only[go_sem,e1,e17,e18,e19,e3,e4,hl,Bool.not_false];done) ?_);conv=>arg 2;simp only[go_sem,e1,e17,e18,e19,e3,e4,hl,Bool.not_false])
          first|refine w_retQ ?_|refine w_endQ ?_
          conv=>arg 1;simp only[go_sem]
          exact w_res rfl (by simpa [hfin, oneV_one, erase_int] using h)
      | cons x r =>
        have hl : ((a.length : Int) < (b.notes.length : Int)) := by rw [hab]; simp; omega
        have hx : (notesV b.notes)[((a.length : Int)).toNat]? = some (.agg [.int x.kind, .int x.hour, .int x.lo, .int x.hi]) := by rw [hab]; exact notesV_at
        have hp := len_nonneg a
        have hw : w64 ((a.length : Int) + 1) = (a ++ [x]).length := by rw [w64_id (by omega)]; simp
        have step : ∀ okb' : Bool, (okb' = true ↔ okb = true ∧ okNote x ∧ hr ≤ x.hour) → (ok b ↔ okb' = true ∧ okNotes x.hour r) := by
          intro okb' h3
          rw [hok, h3, okNotes]
          simp only [and_assoc]
        rcases Bool.eq_false_or_eq_true okb with hb | hb <;> by_cases h4 : okNote x <;> by_cases h5 : x.hour ≥ hr
        all_goals
          repeat first|refine Wr ?_|refine Wb ?_|refine Wc ?_|refine Wd ?_|refine We ?_|refine Wf ?_|refine Wg ?_|refine Wh ?_|refine Wi ?_|refine Wj (by decide) ?_|refine Wa ?_|refine Wk ?_|refine Wl ?_|refine Wm ?_|refine Wn ?_|refine Wo ?_|refine Wp ?_|refine Wq ?_|refine Ww (by simp only[go_sem,e1,e17,e18,e19,e3,e4,hl,hx,hp,hb,h4,h5,hw];done) ?_|((first|refine Ws ?_|refine Wt ?_|refine Wu ?_|refine Wv (by simp only[go_sem,e1,e17,e18,e19,e3,e4,hl,hx,hp,hb,h4,h5,hw];done) ?_);conv=>arg 2;simp only[go_sem,e1,e17,e18,e19,e3,e4,hl,hx,hp,hb,h4,h5,hw])|(refine Wx (by simp only[go_sem,e1,e17,e18,e19,e3,e4,hl,hx,hp,hb,h4,h5,hw];rfl) (by simp only[go_sem,e1,e17,e18,e19,e3,e4,hl,hx,hp,hb,h4,h5,hw];rfl) ?_;refine c114 x ?_)
          refine ⟨r.length, by simp at hrn; omega, a ++ [x], r, x.hour, okb && decide (okNote x) && decide (x.hour ≥ hr), by simp [hab], rfl, ?_, ?_, ?_, ?_, ?_, ?_, rfl, step _ ?_⟩
          any_goals (simp only [go_sem, e1, e17, e18, e19, e3, e4, hw, hb, h4, h5, Bool.false_and, Bool.true_and, decide_true, decide_false, Bool.and_false, Bool.and_true]; done)
          all_goals simp [hb, h4, h5]
end Go.Hu.Sn

set_option linter.unusedSimpArgs false
set_option linter.unusedVariables false
namespace Go.Hu.Sn
attribute [local irreducible] wpS wpIs wpI
attribute [local go_sem] Nat.mul_one Nat.one_mul Nat.zero_add Nat.add_zero Nat.zero_mul and_self and_true true_and decide_true decide_false Bool.false_eq_true if_true if_false Int.cast_ofNat_Int Int.zero_le_ofNat Int.le_refl Int.reduceLT Int.reduceLE Int.reduceToNat

variable {s : St} {Q : V → St → Prop}

/-- A state's numbers are small. -/
def Sm (x : X) : Prop := (0 ≤ x.1 ∧ x.1 ≤ 1000) ∧ (0 ≤ x.2 ∧ x.2 ≤ 1000)

theorem c130 (x : X) (h : Int) (hx : Sm x) (hh : 0 ≤ h ∧ h ≤ 60) (hq : Q (xV (pass x h)) s) : Call prog (.fn 130 [] []) [xV x, .int h] s Q := by
  refine Call.fn F130 p130 rfl ?_
  simp only [F130, xV]
  obtain ⟨hx1, hx2⟩ := hx
  have hm : 0 ≤ x.2 * h ∧ x.2 * h ≤ 60000 := by
    refine ⟨Int.mul_nonneg hx2.1 hh.1, ?_⟩
    have := Int.mul_le_mul hx2.2 hh.2 hh.1 (by omega)
    omega
  have hw1 : w64 (x.2 * h) = x.2 * h := w64_id (by omega)
  have hw2 : w64 (x.1 - x.2 * h) = x.1 - x.2 * h := w64_id (by omega)
  repeat first|refine Wr ?_|refine Wb ?_|refine Wc ?_|refine Wd ?_|refine We ?_|refine Wf ?_|refine Wg ?_|refine Wh ?_|refine Wi ?_|refine Wj (by decide) ?_|refine Wa ?_|refine Wk ?_|refine Wl ?_|refine Wm ?_|refine Wn ?_|refine Wo ?_|refine Wp ?_|refine Wq ?_|refine Ww (by simp only[go_sem,hw1,hw2];done) ?_|((first|refine Ws ?_|refine Wt ?_|refine Wu ?_|refine Wv (by simp only[go_sem,hw1,hw2];done) ?_);conv=>arg 2;simp only[go_sem,hw1,hw2])
  first|refine w_retQ ?_|refine w_endQ ?_
  conv=>arg 1;simp only[go_sem]
  refine w_res ?_ hq
  simp only [oneV_one, erase_agg, eraseL_cons, eraseL_nil, erase_int, pass, xV]
  congr 3
  split <;> omega

theorem c323 (x : X) (n : Int) (hx : Sm x) (hn : 0 ≤ n ∧ n ≤ 1000) (hq : Q (.tup [xV (does 0 x n).1, .bool (does 0 x n).2]) s) : Call prog (.fn 323 [] []) [xV x, .int n] s Q := by
  refine Call.fn F323 p323 rfl ?_
  simp only [F323, xV]
  have hw : w64 (x.1 - n) = x.1 - n := w64_id (by unfold Sm at hx; omega)
  repeat first|refine Wr ?_|refine Wb ?_|refine Wc ?_|refine Wd ?_|refine We ?_|refine Wf ?_|refine Wg ?_|refine Wh ?_|refine Wi ?_|refine Wj (by decide) ?_|refine Wa ?_|refine Wk ?_|refine Wl ?_|refine Wm ?_|refine Wn ?_|refine Wo ?_|refine Wp ?_|refine Wq ?_|refine Ww (by simp only[go_sem,hw];done) ?_|((first|refine Ws ?_|refine Wt ?_|refine Wu ?_|refine Wv (by simp only[go_sem,hw];done) ?_);conv=>arg 2;simp only[go_sem,hw])
  first|refine w_retQ ?_|refine w_endQ ?_
  conv=>arg 1;simp only[go_sem]
  exact w_res (by simp [go_sem, does, xV]) hq
theorem c324 (x : X) (n : Int) (hx : Sm x) (hn : 0 ≤ n ∧ n ≤ 1000) (hq : Q (.tup [xV (does 1 x n).1, .bool (does 1 x n).2]) s) : Call prog (.fn 324 [] []) [xV x, .int n] s Q := by
  refine Call.fn F324 p324 rfl ?_
  simp only [F324, xV]
  have hw : w64 (x.2 + n) = x.2 + n := w64_id (by unfold Sm at hx; omega)
  repeat first|refine Wr ?_|refine Wb ?_|refine Wc ?_|refine Wd ?_|refine We ?_|refine Wf ?_|refine Wg ?_|refine Wh ?_|refine Wi ?_|refine Wj (by decide) ?_|refine Wa ?_|refine Wk ?_|refine Wl ?_|refine Wm ?_|refine Wn ?_|refine Wo ?_|refine Wp ?_|refine Wq ?_|refine Ww (by simp only[go_sem,hw];done) ?_|((first|refine Ws ?_|refine Wt ?_|refine Wu ?_|refine Wv (by simp only[go_sem,hw];done) ?_);conv=>arg 2;simp only[go_sem,hw])
  first|refine w_retQ ?_|refine w_endQ ?_
  conv=>arg 1;simp only[go_sem]
  exact w_res (by simp [go_sem, does, xV]) hq
theorem c325 (x : X) (n : Int) (hq : Q (.tup [xV (does 2 x n).1, .bool (does 2 x n).2]) s) : Call prog (.fn 325 [] []) [xV x, .int n] s Q := by
  refine Call.fn F325 p325 rfl ?_
  simp only [F325, xV]
  repeat first|refine Wr ?_|refine Wb ?_|refine Wc ?_|refine Wd ?_|refine We ?_|refine Wf ?_|refine Wg ?_|refine Wh ?_|refine Wi ?_|refine Wj (by decide) ?_|refine Wa ?_|refine Wk ?_|refine Wl ?_|refine Wm ?_|refine Wn ?_|refine Wo ?_|refine Wp ?_|refine Wq ?_|refine Ww (by simp only[go_sem];done) ?_|((first|refine Ws ?_|refine Wt ?_|refine Wu ?_|refine Wv (by simp only[go_sem];done) ?_);conv=>arg 2;simp only[go_sem])
  first|refine w_retQ ?_|refine w_endQ ?_
  conv=>arg 1;simp only[go_sem]
  exact w_res (by simp [go_sem, does, xV]) hq
theorem c326 (x : X) (n : Int) (hx : Sm x) (hn : 0 ≤ n ∧ n ≤ 1000) (hq : Q (.tup [xV (does 3 x n).1, .bool (does 3 x n).2]) s) : Call prog (.fn 326 [] []) [xV x, .int n] s Q := by
  refine Call.fn F326 p326 rfl ?_
  simp only [F326, xV]
  have hw : w64 (x.1 - n) = x.1 - n := w64_id (by unfold Sm at hx; omega)
  repeat first|refine Wr ?_|refine Wb ?_|refine Wc ?_|refine Wd ?_|refine We ?_|refine Wf ?_|refine Wg ?_|refine Wh ?_|refine Wi ?_|refine Wj (by decide) ?_|refine Wa ?_|refine Wk ?_|refine Wl ?_|refine Wm ?_|refine Wn ?_|refine Wo ?_|refine Wp ?_|refine Wq ?_|refine Ww (by simp only[go_sem,hw];done) ?_|((first|refine Ws ?_|refine Wt ?_|refine Wu ?_|refine Wv (by simp only[go_sem,hw];done) ?_);conv=>arg 2;simp only[go_sem,hw])
  first|refine w_retQ ?_|refine w_endQ ?_
  conv=>arg 1;simp only[go_sem]
  refine w_res ?_ hq
  have : (if n < x.1 then x.1 - n else 0) = max 0 (x.1 - n) := by split <;> omega
  simp [go_sem, does, xV, this]
theorem c327 (x : X) (n : Int) (hq : Q (.tup [xV (does 4 x n).1, .bool (does 4 x n).2]) s) : Call prog (.fn 327 [] []) [xV x, .int n] s Q := by
  refine Call.fn F327 p327 rfl ?_
  simp only [F327, xV]
  repeat first|refine Wr ?_|refine Wb ?_|refine Wc ?_|refine Wd ?_|refine We ?_|refine Wf ?_|refine Wg ?_|refine Wh ?_|refine Wi ?_|refine Wj (by decide) ?_|refine Wa ?_|refine Wk ?_|refine Wl ?_|refine Wm ?_|refine Wn ?_|refine Wo ?_|refine Wp ?_|refine Wq ?_|refine Ww (by simp only[go_sem];done) ?_|((first|refine Ws ?_|refine Wt ?_|refine Wu ?_|refine Wv (by simp only[go_sem];done) ?_);conv=>arg 2;simp only[go_sem])
  first|refine w_retQ ?_|refine w_endQ ?_
  conv=>arg 1;simp only[go_sem]
  exact w_res (by simp [go_sem, does, xV]; rfl) hq

def doFns : List V := [.fn 323 [] [], .fn 324 [] [], .fn 325 [] [], .fn 326 [] [], .fn 327 [] []]
theorem cDoes (k : Int) (hk : 0 ≤ k ∧ k ≤ 4) (x : X) (n : Int) (hx : Sm x) (hn : 0 ≤ n ∧ n ≤ 1000) (hq : Q (.tup [xV (does k x n).1, .bool (does k x n).2]) s) :
    ∃ f, doFns[k.toNat]? = some f ∧ Call prog f [xV x, .int n] s Q := by
  have : k = 0 ∨ k = 1 ∨ k = 2 ∨ k = 3 ∨ k = 4 := by omega
  rcases this with rfl | rfl | rfl | rfl | rfl
  · exact ⟨_, rfl, c323 x n hx hn hq⟩
  · exact ⟨_, rfl, c324 x n hx hn hq⟩
  · exact ⟨_, rfl, c325 x n hq⟩
  · exact ⟨_, rfl, c326 x n hx hn hq⟩
  · exact ⟨_, rfl, c327 x n hq⟩

theorem xKey : KeyEnc (.row [true, true]) xV := by
  refine ⟨fun y => rfl, fun y z => ⟨(y.1 == z.1 && (y.2 == z.2 && true)), rfl, ?_⟩⟩
  obtain ⟨a, b⟩ := y
  obtain ⟨c, d⟩ := z
  simp

/-- All that was there is there still. -/
def Old (s s' : St) : Prop := s ≤ s'
/-- What some of the entries of a set lead to. -/
def Part (es : List (V × V)) (h : Int) (nt : Note) (seen : List Nat) : XS := fun y => ∃ i ∈ seen, ∃ x v, es[i]? = some (xV x, v) ∧ ∃ m, (nt.lo ≤ m ∧ m ≤ nt.hi) ∧ does nt.kind (pass x (nt.hour - h)) m = (y, true)
theorem part_step {es : List (V × V)} {S : XS} (hS : Keys xV es S) {h : Int} {nt : Note} {seen : List Nat} (hall : ∀ i, i < es.length → i ∈ seen) (hlt : ∀ i ∈ seen, i < es.length) (y : X) : Part es h nt seen y ↔ step S h nt y := by
  constructor
  · rintro ⟨i, hi, x, v, hx, m, hm, hd⟩
    have hmem := List.mem_of_getElem? hx
    obtain ⟨z, hz⟩ := hS.1 _ hmem
    simp only [Prod.mk.injEq] at hz
    obtain rfl := xKey.inj hz.1
    rw [hz.2] at hmem
    exact ⟨x, (hS.2 x).2 hmem, m, hm, hd⟩
  · rintro ⟨x, hx, m, hm, hd⟩
    obtain ⟨i, hi⟩ := List.mem_iff_getElem?.1 ((hS.2 x).1 hx)
    exact ⟨i, hall i (List.getElem?_eq_some_iff.1 hi).1, x, _, hi, m, hm, hd⟩

set_option maxHeartbeats 2000000 in
theorem c207 {r : Nat} {es : List (V × V)} {S : XS} (h : Int) (nt : Note) (hs : s r = some (.map es)) (hS : Keys xV es S) (hsm : ∀ x, S x → Sm x) (hn : okNote nt) (hh : 0 ≤ h ∧ h ≤ nt.hour)
    (hq : ∀ r' es' s', s' r' = some (.map es') → s r' = none → Keys xV es' (step S h nt) → s ≤ s' → Q (.map (some r')) s') : Call prog (.fn 207 [] []) [.map (some r), .int h, noteV nt] s Q := by
  refine Call.fn F207 p207 rfl ?_
  simp only [F207, noteV]
  obtain ⟨hk, hho, hspan⟩ := hn
  have hml := most_le nt.kind
  unfold okSpan at hspan
  repeat first|refine Wr ?_|refine Wb ?_|refine Wc ?_|refine Wd ?_|refine We ?_|refine Wf ?_|refine Wg ?_|refine Wh ?_|refine Wi ?_|refine Wj (by decide) ?_|refine Wa ?_|refine Wk ?_|refine Wl ?_|refine Wm ?_|refine Wn ?_|refine Wo ?_|refine Wp ?_|refine Wq ?_|refine Ww (by simp only[go_sem];done) ?_|((first|refine Ws ?_|refine Wt ?_|refine Wu ?_|refine Wv (by simp only[go_sem];done) ?_);conv=>arg 2;simp only[go_sem])
  refine w_setnew fun ro hro => ?_
  have hne : r ≠ ro := St.ne_of hs hro
  repeat first|refine Wr ?_|refine Wb ?_|refine Wc ?_|refine Wd ?_|refine We ?_|refine Wf ?_|refine Wg ?_|refine Wh ?_|refine Wi ?_|refine Wj (by decide) ?_|refine Wa ?_|refine Wk ?_|refine Wl ?_|refine Wm ?_|refine Wn ?_|refine Wo ?_|refine Wp ?_|refine Wq ?_|refine Ww (by simp only[go_sem];done) ?_|((first|refine Ws ?_|refine Wt ?_|refine Wu ?_|refine Wv (by simp only[go_sem];done) ?_);conv=>arg 2;simp only[go_sem])
  refine w_setrange (r := r) (es := es) (by simp only [go_sem]) (by rw [St.get_other hne]; exact hs) fun li hli => ?_
  have hne2 : ro ≠ li := by rintro rfl; rw [St.set_get] at hli; cases hli
  have hli0 : s li = none := by rw [St.get_other hne2.symm] at hli; exact hli
  have hne3 : r ≠ li := by rintro rfl; rw [St.get_other hne, hs] at hli; cases hli
  repeat first|refine Wr ?_|refine Wb ?_|refine Wc ?_|refine Wd ?_|refine We ?_|refine Wf ?_|refine Wg ?_|refine Wh ?_|refine Wi ?_|refine Wj (by decide) ?_|refine Wa ?_|refine Wk ?_|refine Wl ?_|refine Wm ?_|refine Wn ?_|refine Wo ?_|refine Wp ?_|refine Wq ?_|refine Ww (by simp only[go_sem];done) ?_|((first|refine Ws ?_|refine Wt ?_|refine Wu ?_|refine Wv (by simp only[go_sem];done) ?_);conv=>arg 2;simp only[go_sem])
  refine w_iter (fun n e s' => ∃ seen es', n = lft es.length seen ∧ (∀ i ∈ seen, i < es.length) ∧ e 1 = .int h ∧ e 5 = .agg [.int nt.kind, .int nt.hour, .int nt.lo, .int nt.hi] ∧ e 7 = .map (some ro) ∧ e 14 = .iter li ∧
    s' li = some (.iter (some r) es.length seen) ∧ s' r = some (.map es) ∧ s' ro = some (.map es') ∧ Keys xV es' (Part es h nt seen) ∧ s ≤ s') (lft es.length []) ?_ ?_
  · refine ⟨[], [], rfl, by simp, ?_, ?_, ?_, ?_, ?_, ?_, ?_, ?_, ?_⟩
    any_goals (simp only [go_sem]; done)
    · exact St.set_get
    · rw [St.get_other hne3, St.get_other hne]; exact hs
    · rw [St.get_other hne2]; exact St.set_get
    · exact Keys.nil.congr fun y => ⟨False.elim, by rintro ⟨i, hi, _⟩; simp at hi⟩
    · exact St.le_set (St.le_new hro) hli0
  · rintro n e s' ⟨seen, es', hn, hlt, e1, e5, e7, e14, hli', hr', hro', hK, hle⟩
    repeat first|refine Wr ?_|refine Wb ?_|refine Wc ?_|refine Wd ?_|refine We ?_|refine Wf ?_|refine Wg ?_|refine Wh ?_|refine Wi ?_|refine Wj (by decide) ?_|refine Wa ?_|refine Wk ?_|refine Wl ?_|refine Wm ?_|refine Wn ?_|refine Wo ?_|refine Wp ?_|refine Wq ?_|refine Ww (by simp only[go_sem,e1,e5,e7,e14];done) ?_|((first|refine Ws ?_|refine Wt ?_|refine Wu ?_|refine Wv (by simp only[go_sem,e1,e5,e7,e14];done) ?_);conv=>arg 2;simp only[go_sem,e1,e5,e7,e14])
    refine w_setnext (es := es) (seen := seen) (by simp only [go_sem, e14]) hli' hr' ?_ ?_
    · intro hall
      repeat first|refine Wr ?_|refine Wb ?_|refine Wc ?_|refine Wd ?_|refine We ?_|refine Wf ?_|refine Wg ?_|refine Wh ?_|refine Wi ?_|refine Wj (by decide) ?_|refine Wa ?_|refine Wk ?_|refine Wl ?_|refine Wm ?_|refine Wn ?_|refine Wo ?_|refine Wp ?_|refine Wq ?_|refine Ww (by simp only[go_sem,e1,e5,e7,e14];done) ?_|((first|refine Ws ?_|refine Wt ?_|refine Wu ?_|refine Wv (by simp only[go_sem,e1,e5,e7,e14];done) ?_);conv=>arg 2;simp only[go_sem,e1,e5,e7,e14])
      first|refine w_retQ ?_|refine w_endQ ?_
      conv=>arg 1;simp only[go_sem]
      exact w_res rfl (hq ro es' s' hro' hro (hK.congr fun y => part_step hS hall hlt y) hle)
    · intro i x hx hi
      obtain ⟨x0, hx0⟩ := hS.1 x (List.mem_of_getElem? hx)
      subst hx0
      have hSx : S x0 := (hS.2 x0).2 (List.mem_of_getElem? hx)
      have hil : i < es.length := (List.getElem?_eq_some_iff.1 hx).1
      have hs1 : (s'.set li (.iter (some r) es.length (seen ++ [i]))) li = some (.iter (some r) es.length (seen ++ [i])) := St.set_get
      have hs2 : (s'.set li (.iter (some r) es.length (seen ++ [i]))) r = some (.map es) := by rw [St.get_other hne3]; exact hr'
      have hs3 : (s'.set li (.iter (some r) es.length (seen ++ [i]))) ro = some (.map es') := by rw [St.get_other hne2]; exact hro'
      have hle2 : s ≤ s'.set li (.iter (some r) es.length (seen ++ [i])) := St.le_set hle hli0
      generalize s'.set li (.iter (some r) es.length (seen ++ [i])) = s1 at hs1 hs2 hs3 hle2
      repeat first|refine Wr ?_|refine Wb ?_|refine Wc ?_|refine Wd ?_|refine We ?_|refine Wf ?_|refine Wg ?_|refine Wh ?_|refine Wi ?_|refine Wj (by decide) ?_|refine Wa ?_|refine Wk ?_|refine Wl ?_|refine Wm ?_|refine Wn ?_|refine Wo ?_|refine Wp ?_|refine Wq ?_|refine Ww (by simp only[go_sem,e1,e5,e7,e14];done) ?_|((first|refine Ws ?_|refine Wt ?_|refine Wu ?_|refine Wv (by simp only[go_sem,e1,e5,e7,e14];done) ?_);conv=>arg 2;simp only[go_sem,e1,e5,e7,e14])
      refine w_setentry (es := es) (by simp only [go_sem, e14]) hs1 hs2 hx ?_
      have hw1 : w64 (nt.hour - h) = nt.hour - h := w64_id (by omega)
      have hw2 : w64 (nt.hi - nt.lo) = nt.hi - nt.lo := w64_id (by omega)
      have hw3 : w64 (nt.hi - nt.lo + 1) = nt.hi - nt.lo + 1 := w64_id (by omega)
      have hxs := hsm x0 hSx
      simp only [xV]
      repeat first|refine Wr ?_|refine Wb ?_|refine Wc ?_|refine Wd ?_|refine We ?_|refine Wf ?_|refine Wg ?_|refine Wh ?_|refine Wi ?_|refine Wj (by decide) ?_|refine Wa ?_|refine Wk ?_|refine Wl ?_|refine Wm ?_|refine Wn ?_|refine Wo ?_|refine Wp ?_|refine Wq ?_|refine Ww (by simp only[go_sem,e1,e5,e7,e14,hw1,hw2,hw3];done) ?_|((first|refine Ws ?_|refine Wt ?_|refine Wu ?_|refine Wv (by simp only[go_sem,e1,e5,e7,e14,hw1,hw2,hw3];done) ?_);conv=>arg 2;simp only[go_sem,e1,e5,e7,e14,hw1,hw2,hw3])|(refine Wx (by simp only[go_sem,e1,e5,e7,e14,hw1,hw2,hw3];rfl) (by simp only[go_sem,e1,e5,e7,e14,hw1,hw2,hw3];rfl) ?_;refine c130 x0 _ hxs (by omega) ?_)
      generalize hx1 : pass x0 (nt.hour - h) = x1
      have hsm1 : Sm x1 := by
        subst hx1
        unfold Sm pass at *
        have : 0 ≤ x0.2 * (nt.hour - h) := Int.mul_nonneg hxs.2.1 (by omega)
        simp only
        omega
      refine w_iter (fun n2 e s2 => ∃ (j : Int) (es2 : List (V × V)), n2 = (nt.hi - nt.lo + 1 - j).toNat ∧ (0 ≤ j ∧ j ≤ nt.hi - nt.lo + 1) ∧ e 1 = .int h ∧ e 5 = .agg [.int nt.kind, .int nt.hour, .int nt.lo, .int nt.hi] ∧ e 7 = .map (some ro) ∧ e 14 = .iter li ∧ e 8 = xV x1 ∧
        e 32 = .int (nt.hi - nt.lo + 1) ∧ e 33 = .int j ∧ s2 li = some (.iter (some r) es.length (seen ++ [i])) ∧ s2 r = some (.map es) ∧ s2 ro = some (.map es2) ∧ s ≤ s2 ∧
        Keys xV es2 (fun y => Part es h nt seen y ∨ ∃ m, (nt.lo ≤ m ∧ m < nt.lo + j) ∧ does nt.kind x1 m = (y, true))) (nt.hi - nt.lo + 1).toNat ?_ ?_
      · refine ⟨0, es', by simp, by omega, ?_, ?_, ?_, ?_, ?_, ?_, ?_, hs1, hs2, hs3, hle2, hK.congr fun y => ⟨.inl, ?_⟩⟩
        any_goals (simp only [go_sem, e1, e5, e7, e14]; done)
        rintro (h | ⟨m, hm, _⟩)
        · exact h
        · omega
      · rintro n2 e s2 ⟨j, es2, hn2, hj, e1, e5, e7, e14, e8, e32, e33, q1, q2, q3, q4, q5⟩
        by_cases hlast : j < nt.hi - nt.lo + 1
        · have hk' : 0 ≤ nt.kind ∧ nt.kind < 5 := by omega
          have hw4 : w64 (nt.lo + j) = nt.lo + j := w64_id (by omega)
          have hw5 : w64 (j + 1) = j + 1 := w64_id (by omega)
          have hf : ∃ f, doFns[nt.kind.toNat]? = some f ∧ ∀ {s : St} {Q : V → St → Prop}, Q (.tup [xV (does nt.kind x1 (nt.lo + j)).1, .bool (does nt.kind x1 (nt.lo + j)).2]) s → Call prog f [xV x1, .int (nt.lo + j)] s Q := by
            obtain ⟨f, hf, _⟩ := cDoes (s := s) (Q := fun _ _ => True) nt.kind hk x1 (nt.lo + j) hsm1 (by omega) trivial
            refine ⟨f, hf, fun {s Q} h => ?_⟩
            obtain ⟨f', hf', hc⟩ := cDoes (s := s) nt.kind hk x1 (nt.lo + j) hsm1 (by omega) h
            rw [hf] at hf'
            cases hf'
            exact hc
          obtain ⟨f, hf1, hf2⟩ := hf
          simp only [doFns] at hf1
          generalize hd : does nt.kind x1 (nt.lo + j) = dd at hf2
          obtain ⟨y, ok⟩ := dd
          have hfin : ∀ (es3 : List (V × V)), (Keys xV es3 fun z => (Part es h nt seen z ∨ ∃ m, (nt.lo ≤ m ∧ m < nt.lo + j) ∧ does nt.kind x1 m = (z, true)) ∨ (ok = true ∧ z = y)) →
              Keys xV es3 (fun z => Part es h nt seen z ∨ ∃ m, (nt.lo ≤ m ∧ m < nt.lo + (j + 1)) ∧ does nt.kind x1 m = (z, true)) := by
            intro es3 h3
            refine h3.congr fun z => ?_
            constructor
            · rintro ((h | ⟨m, hm, h⟩) | ⟨rfl, rfl⟩)
              · exact .inl h
              · exact .inr ⟨m, by omega, h⟩
              · exact .inr ⟨nt.lo + j, by omega, hd⟩
            · rintro (h | ⟨m, hm, h⟩)
              · exact .inl (.inl h)
              · by_cases hmj : m = nt.lo + j
                · subst hmj
                  rw [hd] at h
                  cases h
                  exact .inr ⟨rfl, rfl⟩
                · exact .inl (.inr ⟨m, by omega, h⟩)
          simp only [xV] at e8 hf2
          cases ok with
          | true =>
            repeat first|refine Wr ?_|refine Wb ?_|refine Wc ?_|refine Wd ?_|refine We ?_|refine Wf ?_|refine Wg ?_|refine Wh ?_|refine Wi ?_|refine Wj (by decide) ?_|refine Wa ?_|refine Wk ?_|refine Wl ?_|refine Wm ?_|refine Wn ?_|refine Wo ?_|refine Wp ?_|refine Wq ?_|refine Ww (by simp only[go_sem,e1,e5,e7,e14,e8,e32,e33,hlast,hk',hw4,hw5,hf1];done) ?_|((first|refine Ws ?_|refine Wt ?_|refine Wu ?_|refine Wv (by simp only[go_sem,e1,e5,e7,e14,e8,e32,e33,hlast,hk',hw4,hw5,hf1];done) ?_);conv=>arg 2;simp only[go_sem,e1,e5,e7,e14,e8,e32,e33,hlast,hk',hw4,hw5,hf1])|(refine Wx (by simp only[go_sem,e1,e5,e7,e14,e8,e32,e33,hlast,hk',hw4,hw5,hf1];rfl) (by simp only[go_sem,e1,e5,e7,e14,e8,e32,e33,hlast,hk',hw4,hw5,hf1];rfl) ?_;refine hf2 ?_)
            refine w_setadd xKey (r := ro) (y := y) (es := es2) (by simp only [go_sem, e7]) (by simp only [go_sem]; rfl) (by simp only [go_sem]) q3 q5 fun es3 hes3 => ?_
            repeat first|refine Wr ?_|refine Wb ?_|refine Wc ?_|refine Wd ?_|refine We ?_|refine Wf ?_|refine Wg ?_|refine Wh ?_|refine Wi ?_|refine Wj (by decide) ?_|refine Wa ?_|refine Wk ?_|refine Wl ?_|refine Wm ?_|refine Wn ?_|refine Wo ?_|refine Wp ?_|refine Wq ?_|refine Ww (by simp only[go_sem,e1,e5,e7,e14,e8,e32,e33,hw5];done) ?_|((first|refine Ws ?_|refine Wt ?_|refine Wu ?_|refine Wv (by simp only[go_sem,e1,e5,e7,e14,e8,e32,e33,hw5];done) ?_);conv=>arg 2;simp only[go_sem,e1,e5,e7,e14,e8,e32,e33,hw5])
            refine ⟨_, ?_, j + 1, es3, rfl, by omega, ?_, ?_, ?_, ?_, ?_, ?_, ?_, ?_, ?_, St.set_get, ?_, hfin es3 (hes3.congr fun z => by simp)⟩
            any_goals (simp only [go_sem, e1, e5, e7, e14, e8, e32, e33, hw5, xV]; done)
            · omega
            · rw [St.get_other hne2.symm]; exact q1
            · rw [St.get_other hne]; exact q2
            · exact St.le_set q4 hro
          | false =>
            repeat first|refine Wr ?_|refine Wb ?_|refine Wc ?_|refine Wd ?_|refine We ?_|refine Wf ?_|refine Wg ?_|refine Wh ?_|refine Wi ?_|refine Wj (by decide) ?_|refine Wa ?_|refine Wk ?_|refine Wl ?_|refine Wm ?_|refine Wn ?_|refine Wo ?_|refine Wp ?_|refine Wq ?_|refine Ww (by simp only[go_sem,e1,e5,e7,e14,e8,e32,e33,hlast,hk',hw4,hw5,hf1];done) ?_|((first|refine Ws ?_|refine Wt ?_|refine Wu ?_|refine Wv (by simp only[go_sem,e1,e5,e7,e14,e8,e32,e33,hlast,hk',hw4,hw5,hf1];done) ?_);conv=>arg 2;simp only[go_sem,e1,e5,e7,e14,e8,e32,e33,hlast,hk',hw4,hw5,hf1])|(refine Wx (by simp only[go_sem,e1,e5,e7,e14,e8,e32,e33,hlast,hk',hw4,hw5,hf1];rfl) (by simp only[go_sem,e1,e5,e7,e14,e8,e32,e33,hlast,hk',hw4,hw5,hf1];rfl) ?_;refine hf2 ?_)
            refine ⟨_, ?_, j + 1, es2, rfl, by omega, ?_, ?_, ?_, ?_, ?_, ?_, ?_, q1, q2, q3, q4, hfin es2 (q5.congr fun z => by simp)⟩
            any_goals (simp only [go_sem, e1, e5, e7, e14, e8, e32, e33, hw5, xV]; done)
            · omega
        · repeat first|refine Wr ?_|refine Wb ?_|refine Wc ?_|refine Wd ?_|refine We ?_|refine Wf ?_|refine Wg ?_|refine Wh ?_|refine Wi ?_|refine Wj (by decide) ?_|refine Wa ?_|refine Wk ?_|refine Wl ?_|refine Wm ?_|refine Wn ?_|refine Wo ?_|refine Wp ?_|refine Wq ?_|refine Ww (by simp only[go_sem,e1,e5,e7,e14,e8,e32,e33,hlast];done) ?_|((first|refine Ws ?_|refine Wt ?_|refine Wu ?_|refine Wv (by simp only[go_sem,e1,e5,e7,e14,e8,e32,e33,hlast];done) ?_);conv=>arg 2;simp only[go_sem,e1,e5,e7,e14,e8,e32,e33,hlast])
          refine ⟨_, ?_, seen ++ [i], es2, rfl, ?_, ?_, ?_, ?_, ?_, q1, q2, q3, q5.congr fun y => ?_, q4⟩
          any_goals (simp only [go_sem, e1, e5, e7, e14]; done)
          · rw [hn]; exact left_lt hil hi
          · intro k hk
            rcases List.mem_append.1 hk with hk | hk
            · exact hlt k hk
            · simp at hk; subst hk; exact hil
          · constructor
            · rintro (⟨k, hk, h⟩ | ⟨m, hm, h⟩)
              · exact ⟨k, by simp [hk], h⟩
              · exact ⟨i, by simp, x0, _, hx, m, by omega, by rw [hx1]; exact h⟩
            · rintro ⟨k, hk, x, v, hkx, m, hm, hd⟩
              rcases List.mem_append.1 hk with hk | hk
              · exact .inl ⟨k, hk, x, v, hkx, m, hm, hd⟩
              · simp at hk
                subst hk
                rw [hx] at hkx
                simp only [Option.some.injEq, Prod.mk.injEq] at hkx
                obtain rfl := xKey.inj hkx.1
                exact .inr ⟨m, by omega, by rw [← hx1]; exact hd⟩
end Go.Hu.Sn

set_option linter.unusedSimpArgs false
set_option linter.unusedVariables false
namespace Go.Hu.Sn
attribute [local irreducible] wpS wpIs wpI
attribute [local go_sem] Nat.mul_one Nat.one_mul Nat.zero_add Nat.add_zero Nat.zero_mul and_self and_true true_and decide_true decide_false Bool.false_eq_true if_true if_false Int.cast_ofNat_Int Int.zero_le_ofNat Int.le_refl Int.reduceLT Int.reduceLE Int.reduceToNat

variable {s : St} {Q : V → St → Prop}

/-- A book in the calculation. -/
def seineC (b : Book) (t : List V) : List V := .int b.lo :: .int b.hi :: .lst (notesV b.notes) .any :: t
def seineV (b : Book) (k0 k1 k2 k3 k4 : Int) : V := .agg [.int b.lo, .int b.hi, .lst (notesV b.notes) .any, .int k0, .int k1, .int k2, .int k3, .int k4]

theorem erase_seineV (b : Book) (k0 k1 k2 k3 k4 : Int) : (seineV b k0 k1 k2 k3 k4).erase = seineV b k0 k1 k2 k3 k4 := by simp [seineV, go_sem]
attribute [go_sem] erase_seineV
theorem c208 (b : Book) (k0 k1 k2 k3 k4 : Int) (hq : Q (.fn 251 [] [.rptr (seineV b k0 k1 k2 k3 k4).cells 0]) s) : Call prog (.fn 208 [] []) [seineV b k0 k1 k2 k3 k4] s Q := by
  refine Call.fn F208 p208 rfl ?_
  simp only [F208, seineV]
  repeat first|refine Wr ?_|refine Wb ?_|refine Wc ?_|refine Wd ?_|refine We ?_|refine Wf ?_|refine Wg ?_|refine Wh ?_|refine Wi ?_|refine Wj (by decide) ?_|refine Wa ?_|refine Wk ?_|refine Wl ?_|refine Wm ?_|refine Wn ?_|refine Wo ?_|refine Wp ?_|refine Wq ?_|refine Ww (by simp only[go_sem];done) ?_|((first|refine Ws ?_|refine Wt ?_|refine Wu ?_|refine Wv (by simp only[go_sem];done) ?_);conv=>arg 2;simp only[go_sem])
  first|refine w_retQ ?_|refine w_endQ ?_
  conv=>arg 1;simp only[go_sem]
  exact w_res (by simp [go_sem, seineV]) hq

theorem c251 (b : Book) (k0 k1 k2 k3 k4 : Int) (y : V) (hb : okSpan b.lo b.hi 400) (hye : y.erase = y) (J : Int → St → Prop) (E : St → Prop) (h0 : J 0 s) (hJ : ∀ k s, 0 ≤ k → k < b.hi - b.lo + 1 → J k s → Call prog y [xV (b.lo + k, 0)] s fun r s' => (r = .bool true ∧ J (k + 1) s') ∨ (r = .bool false ∧ E s'))
    (hq : ∀ v s', J (b.hi - b.lo + 1) s' ∨ E s' → Q v s') : Call prog (.fn 251 [] [.rptr (seineV b k0 k1 k2 k3 k4).cells 0]) [y] s Q := by
  refine Call.fn F251 p251 rfl ?_
  simp only [F251, seineV]
  unfold okSpan at hb
  have hw1 : w64 (b.hi - b.lo) = b.hi - b.lo := w64_id (by omega)
  have hw2 : w64 (b.hi - b.lo + 1) = b.hi - b.lo + 1 := w64_id (by omega)
  repeat first|refine Wr ?_|refine Wb ?_|refine Wc ?_|refine Wd ?_|refine We ?_|refine Wf ?_|refine Wg ?_|refine Wh ?_|refine Wi ?_|refine Wj (by decide) ?_|refine Wa ?_|refine Wk ?_|refine Wl ?_|refine Wm ?_|refine Wn ?_|refine Wo ?_|refine Wp ?_|refine Wq ?_|refine Ww (by simp only[go_sem,hw1,hw2];done) ?_|((first|refine Ws ?_|refine Wt ?_|refine Wu ?_|refine Wv (by simp only[go_sem,hw1,hw2];done) ?_);conv=>arg 2;simp only[go_sem,hw1,hw2])
  refine w_iter (fun n e s' => ∃ k : Int, n = (b.hi - b.lo + 1 - k).toNat ∧ (0 ≤ k ∧ k ≤ b.hi - b.lo + 1) ∧ e 0 = y ∧ e 1 = .rptr [.int b.lo, .int b.hi, .lst (notesV b.notes) .any, .int k0, .int k1, .int k2, .int k3, .int k4] 0 ∧ e 13 = .int (b.hi - b.lo + 1) ∧ e 14 = .int k ∧ J k s') (b.hi - b.lo + 1).toNat ?_ ?_
  · refine ⟨0, by simp, by omega, ?_, ?_, ?_, ?_, h0⟩
    any_goals (simp only [go_sem]; done)
  · rintro n e s' ⟨k, hn, hk, e0, e1, e13, e14, hj⟩
    by_cases hl : k < b.hi - b.lo + 1
    · have hw3 : w64 (b.lo + k) = b.lo + k := w64_id (by omega)
      have hw4 : w64 (k + 1) = k + 1 := w64_id (by omega)
      repeat first|refine Wr ?_|refine Wb ?_|refine Wc ?_|refine Wd ?_|refine We ?_|refine Wf ?_|refine Wg ?_|refine Wh ?_|refine Wi ?_|refine Wj (by decide) ?_|refine Wa ?_|refine Wk ?_|refine Wl ?_|refine Wm ?_|refine Wn ?_|refine Wo ?_|refine Wp ?_|refine Wq ?_|refine Ww (by simp only[go_sem,e0,e1,e13,e14,hl,hw3];done) ?_|((first|refine Ws ?_|refine Wt ?_|refine Wu ?_|refine Wv (by simp only[go_sem,e0,e1,e13,e14,hl,hw3];done) ?_);conv=>arg 2;simp only[go_sem,e0,e1,e13,e14,hl,hw3])
      refine w_call (by simp only [go_sem, e0]; rfl) (by simp only [go_sem, hw3]; rfl) ?_
      refine Call.imp (hJ k s' hk.1 hl hj) ?_
      rintro r s2 (⟨rfl, h2⟩ | ⟨rfl, h2⟩)
      · repeat first|refine Wr ?_|refine Wb ?_|refine Wc ?_|refine Wd ?_|refine We ?_|refine Wf ?_|refine Wg ?_|refine Wh ?_|refine Wi ?_|refine Wj (by decide) ?_|refine Wa ?_|refine Wk ?_|refine Wl ?_|refine Wm ?_|refine Wn ?_|refine Wo ?_|refine Wp ?_|refine Wq ?_|refine Ww (by simp only[go_sem,e0,e1,e13,e14,hw4,Bool.not_true];done) ?_|((first|refine Ws ?_|refine Wt ?_|refine Wu ?_|refine Wv (by simp only[go_sem,e0,e1,e13,e14,hw4,Bool.not_true];done) ?_);conv=>arg 2;simp only[go_sem,e0,e1,e13,e14,hw4,Bool.not_true])
        refine ⟨_, ?_, k + 1, rfl, by omega, ?_, ?_, ?_, ?_, h2⟩
        any_goals (simp only [go_sem, e0, e1, e13, e14, hw4]; done)
        omega
      · repeat first|refine Wr ?_|refine Wb ?_|refine Wc ?_|refine Wd ?_|refine We ?_|refine Wf ?_|refine Wg ?_|refine Wh ?_|refine Wi ?_|refine Wj (by decide) ?_|refine Wa ?_|refine Wk ?_|refine Wl ?_|refine Wm ?_|refine Wn ?_|refine Wo ?_|refine Wp ?_|refine Wq ?_|refine Ww (by simp only[go_sem,e0,e1,e13,e14,hw4,Bool.not_false];done) ?_|((first|refine Ws ?_|refine Wt ?_|refine Wu ?_|refine Wv (by simp only[go_sem,e0,e1,e13,e14,hw4,Bool.not_false];done) ?_);conv=>arg 2;simp only[go_sem,e0,e1,e13,e14,hw4,Bool.not_false])
        first|refine w_retQ ?_|refine w_endQ ?_
        conv=>arg 1;simp only[go_sem]
        exact w_res rfl (hq _ _ (.inr h2))
    · repeat first|refine Wr ?_|refine Wb ?_|refine Wc ?_|refine Wd ?_|refine We ?_|refine Wf ?_|refine Wg ?_|refine Wh ?_|refine Wi ?_|refine Wj (by decide) ?_|refine Wa ?_|refine Wk ?_|refine Wl ?_|refine Wm ?_|refine Wn ?_|refine Wo ?_|refine Wp ?_|refine Wq ?_|refine Ww (by simp only[go_sem,e0,e1,e13,e14,hl];done) ?_|((first|refine Ws ?_|refine Wt ?_|refine Wu ?_|refine Wv (by simp only[go_sem,e0,e1,e13,e14,hl];done) ?_);conv=>arg 2;simp only[go_sem,e0,e1,e13,e14,hl])
      first|refine w_retQ ?_|refine w_endQ ?_
      conv=>arg 1;simp only[go_sem]
      have : k = b.hi - b.lo + 1 := by omega
      subst this
      exact w_res rfl (hq _ _ (.inl hj))

theorem c129 (b : Book) (k0 k1 k2 k3 k4 : Int) (hb : okSpan b.lo b.hi 400) (hq : ∀ r es s', s' r = some (.map es) → s r = none → Keys xV es (begun b) → s ≤ s' → Q (.map (some r)) s') : Call prog (.fn 129 [] []) [seineV b k0 k1 k2 k3 k4] s Q := by
  refine Call.fn F129 p129 rfl ?_
  simp only [F129, seineV]
  repeat first|refine Wr ?_|refine Wb ?_|refine Wc ?_|refine Wd ?_|refine We ?_|refine Wf ?_|refine Wg ?_|refine Wh ?_|refine Wi ?_|refine Wj (by decide) ?_|refine Wa ?_|refine Wk ?_|refine Wl ?_|refine Wm ?_|refine Wn ?_|refine Wo ?_|refine Wp ?_|refine Wq ?_|refine Ww (by simp only[go_sem];done) ?_|((first|refine Ws ?_|refine Wt ?_|refine Wu ?_|refine Wv (by simp only[go_sem];done) ?_);conv=>arg 2;simp only[go_sem])
  refine w_setnew fun r hr => ?_
  repeat first|refine Wr ?_|refine Wb ?_|refine Wc ?_|refine Wd ?_|refine We ?_|refine Wf ?_|refine Wg ?_|refine Wh ?_|refine Wi ?_|refine Wj (by decide) ?_|refine Wa ?_|refine Wk ?_|refine Wl ?_|refine Wm ?_|refine Wn ?_|refine Wo ?_|refine Wp ?_|refine Wq ?_|refine Ww (by simp only[go_sem];done) ?_|((first|refine Ws ?_|refine Wt ?_|refine Wu ?_|refine Wv (by simp only[go_sem];done) ?_);conv=>arg 2;simp only[go_sem])|(refine Wx (by simp only[go_sem];rfl) (by simp only[go_sem];rfl) ?_;refine c208 b k0 k1 k2 k3 k4 ?_)
  refine w_rfunc (by simp only [go_sem]; rfl) fun l hl => ?_
  have hne : r ≠ l := by rintro rfl; rw [St.set_get] at hl; cases hl
  have hl0 : s l = none := by rw [St.get_other hne.symm] at hl; exact hl
  generalize hL : (LoopRec.mk _ _ _ _ _ _ _) = L
  refine c251 b k0 k1 k2 k3 k4 _ hb (by simp only [go_sem]) (fun k s' => s' l = some (.loop L) ∧ s ≤ s' ∧ ∃ es, s' r = some (.map es) ∧ Keys xV es fun x => (b.lo ≤ x.1 ∧ x.1 < b.lo + k) ∧ x.2 = 0) (fun _ => False) ?_ ?_ ?_
  · refine ⟨St.set_get, St.le_set (St.le_new hr) hl0, [], ?_, Keys.nil.congr fun x => ⟨False.elim, fun h => by omega⟩⟩
    rw [St.get_other hne]; exact St.set_get
  · rintro k s' hk0 hk1 ⟨q1, q2, es, q3, q4⟩
    refine Call.yields q1 (by rw [← hL]) (by rw [← hL]; rfl) ?_
    rw [← hL]
    dsimp only
    simp only [xV]
    repeat first|refine Wr ?_|refine Wb ?_|refine Wc ?_|refine Wd ?_|refine We ?_|refine Wf ?_|refine Wg ?_|refine Wh ?_|refine Wi ?_|refine Wj (by decide) ?_|refine Wa ?_|refine Wk ?_|refine Wl ?_|refine Wm ?_|refine Wn ?_|refine Wo ?_|refine Wp ?_|refine Wq ?_|refine Ww (by simp only[go_sem,bind_one,clear_apply];done) ?_|((first|refine Ws ?_|refine Wt ?_|refine Wu ?_|refine Wv (by simp only[go_sem,bind_one,clear_apply];done) ?_);conv=>arg 2;simp only[go_sem,bind_one,clear_apply])
    refine w_assign q1 (by rw [← hL]) ?_
    repeat first|refine Wr ?_|refine Wb ?_|refine Wc ?_|refine Wd ?_|refine We ?_|refine Wf ?_|refine Wg ?_|refine Wh ?_|refine Wi ?_|refine Wj (by decide) ?_|refine Wa ?_|refine Wk ?_|refine Wl ?_|refine Wm ?_|refine Wn ?_|refine Wo ?_|refine Wp ?_|refine Wq ?_|refine Ww (by simp only[go_sem,bind_one,clear_apply];done) ?_|((first|refine Ws ?_|refine Wt ?_|refine Wu ?_|refine Wv (by simp only[go_sem,bind_one,clear_apply];done) ?_);conv=>arg 2;simp only[go_sem,bind_one,clear_apply])
    refine w_setadd xKey (r := r) (y := (b.lo + k, 0)) (es := es) (by simp only [go_sem]) (by simp only [go_sem, xV]) (by simp only [go_sem]) (by rw [St.get_other hne]; exact q3) q4 fun es2 h2 => ?_
    repeat first|refine Wr ?_|refine Wb ?_|refine Wc ?_|refine Wd ?_|refine We ?_|refine Wf ?_|refine Wg ?_|refine Wh ?_|refine Wi ?_|refine Wj (by decide) ?_|refine Wa ?_|refine Wk ?_|refine Wl ?_|refine Wm ?_|refine Wn ?_|refine Wo ?_|refine Wp ?_|refine Wq ?_|refine Ww (by simp only[go_sem,bind_one,clear_apply];done) ?_|((first|refine Ws ?_|refine Wt ?_|refine Wu ?_|refine Wv (by simp only[go_sem,bind_one,clear_apply];done) ?_);conv=>arg 2;simp only[go_sem,bind_one,clear_apply])
    refine w_yieldN (by rw [St.get_other hne.symm]; exact St.set_get) (.inl ⟨rfl, ?_, ?_, es2, ?_, h2.congr fun x => ?_⟩)
    · rw [St.set_get, ← hL]
    · exact St.le_set (St.le_set (St.le_set q2 hl0) hr) hl0
    · rw [St.get_other hne]; exact St.set_get
    · obtain ⟨x1, x2⟩ := x
      simp only [Prod.mk.injEq]
      omega
  · rintro v s' (⟨q1, q2, es, q3, q4⟩ | h)
    · refine w_rfN q1 (by rw [← hL]; simp) (by rw [← hL]) ?_
      repeat first|refine Wr ?_|refine Wb ?_|refine Wc ?_|refine Wd ?_|refine We ?_|refine Wf ?_|refine Wg ?_|refine Wh ?_|refine Wi ?_|refine Wj (by decide) ?_|refine Wa ?_|refine Wk ?_|refine Wl ?_|refine Wm ?_|refine Wn ?_|refine Wo ?_|refine Wp ?_|refine Wq ?_|refine Ww (by simp only[go_sem];done) ?_|((first|refine Ws ?_|refine Wt ?_|refine Wu ?_|refine Wv (by simp only[go_sem];done) ?_);conv=>arg 2;simp only[go_sem])
      first|refine w_retQ ?_|refine w_endQ ?_
      conv=>arg 1;simp only[go_sem]
      refine w_res rfl (hq r es _ (by rw [St.get_other hne]; exact q3) hr (q4.congr fun x => ?_) (St.le_set q2 hl0))
      unfold begun
      omega
    · exact h.elim

theorem Bd.sm {k : Int} {S : XS} (h : Bd k S) (hk : k ≤ 100) : ∀ x, S x → Sm x := fun x hx => by
  have := h x hx
  unfold Sm
  omega

set_option maxHeartbeats 1000000 in
theorem c128 {r : Nat} {es : List (V × V)} {S : XS} {k : Int} (h : Int) (ns : List Note) (hs : s r = some (.map es)) (hS : Keys xV es S) (hb : Bd k S) (hk : 0 ≤ k ∧ k + ns.length ≤ 100) (hn : okNotes h ns) (hh : 0 ≤ h)
    (hq : ∀ r' es' s', s' r' = some (.map es') → (r' = r ∨ s r' = none) → Keys xV es' (run S h ns) → s ≤ s' → Q (.tup [.map (some r'), .int (hourOf h ns)]) s') : Call prog (.fn 128 [] []) [.map (some r), .int h, .lst (notesV ns) .any] s Q := by
  refine Call.fn F128 p128 rfl ?_
  simp only [F128]
  repeat first|refine Wr ?_|refine Wb ?_|refine Wc ?_|refine Wd ?_|refine We ?_|refine Wf ?_|refine Wg ?_|refine Wh ?_|refine Wi ?_|refine Wj (by decide) ?_|refine Wa ?_|refine Wk ?_|refine Wl ?_|refine Wm ?_|refine Wn ?_|refine Wo ?_|refine Wp ?_|refine Wq ?_|refine Ww (by simp only[go_sem];done) ?_|((first|refine Ws ?_|refine Wt ?_|refine Wu ?_|refine Wv (by simp only[go_sem];done) ?_);conv=>arg 2;simp only[go_sem])
  refine w_iter (fun n e s' => ∃ (a b : List Note) (r' : Nat) (es' : List (V × V)), ns = a ++ b ∧ b.length = n ∧ e 0 = .map (some r') ∧ e 1 = .int (hourOf h a) ∧ e 10 = .lst (notesV ns) .any ∧ e 11 = .int ns.length ∧ e 12 = .int a.length ∧ s' r' = some (.map es') ∧ Keys xV es' (run S h a) ∧ s ≤ s' ∧ (r' = r ∨ s r' = none)) ns.length ?_ ?_
  · refine ⟨[], ns, r, es, rfl, rfl, ?_, ?_, ?_, ?_, ?_, hs, hS, St.le_refl s, .inl rfl⟩
    any_goals (simp only [go_sem, List.length_nil, Int.natCast_zero, hourOf, notesV_length]; done)
  · rintro n e s' ⟨a, b, r', es', hab, hbn, e0, e1, e10, e11, e12, q1, q2, q3, q4⟩
    cases b with
    | nil =>
      have hl : ¬ ((a.length : Int) < (ns.length : Int)) := by rw [hab]; simp
      repeat first|refine Wr ?_|refine Wb ?_|refine Wc ?_|refine Wd ?_|refine We ?_|refine Wf ?_|refine Wg ?_|refine Wh ?_|refine Wi ?_|refine Wj (by decide) ?_|refine Wa ?_|refine Wk ?_|refine Wl ?_|refine Wm ?_|refine Wn ?_|refine Wo ?_|refine Wp ?_|refine Wq ?_|refine Ww (by simp only[go_sem,e0,e1,e10,e11,e12,hl];done) ?_|((first|refine Ws ?_|refine Wt ?_|refine Wu ?_|refine Wv (by simp only[go_sem,e0,e1,e10,e11,e12,hl];done) ?_);conv=>arg 2;simp only[go_sem,e0,e1,e10,e11,e12,hl])
      first|refine w_retQ ?_|refine w_endQ ?_
      conv=>arg 1;simp only[go_sem]
      have hns : ns = a := by simpa using hab
      rw [← hns] at q2
      exact w_res (by rw [← hns]; simp only [go_sem]) (hq r' es' s' q1 q4 q2 q3)
    | cons x b =>
      have hl : ((a.length : Int) < (ns.length : Int)) := by rw [hab]; simp; omega
      have hx : (notesV ns)[((a.length : Int)).toNat]? = some (.agg [.int x.kind, .int x.hour, .int x.lo, .int x.hi]) := by rw [hab]; exact notesV_at
      have hp := len_nonneg a
      have hlen : (ns.length : Int) ≤ 100 := by omega
      have hal : (a.length : Int) + 1 ≤ ns.length := by omega
      have hw : w64 ((a.length : Int) + 1) = (a ++ [x]).length := by rw [w64_id (by omega)]; simp
      rw [hab] at hn
      obtain ⟨hn1, ⟨hn2, hn3⟩, hn4⟩ := okNotes_append.1 hn
      have hh2 := hourOf_le hn1
      have hbd := run_bd hb hk.1 hn1
      repeat first|refine Wr ?_|refine Wb ?_|refine Wc ?_|refine Wd ?_|refine We ?_|refine Wf ?_|refine Wg ?_|refine Wh ?_|refine Wi ?_|refine Wj (by decide) ?_|refine Wa ?_|refine Wk ?_|refine Wl ?_|refine Wm ?_|refine Wn ?_|refine Wo ?_|refine Wp ?_|refine Wq ?_|refine Ww (by simp only[go_sem,e0,e1,e10,e11,e12,hl,hx,hp];done) ?_|((first|refine Ws ?_|refine Wt ?_|refine Wu ?_|refine Wv (by simp only[go_sem,e0,e1,e10,e11,e12,hl,hx,hp];done) ?_);conv=>arg 2;simp only[go_sem,e0,e1,e10,e11,e12,hl,hx,hp])|(refine Wx (by simp only[go_sem,e0,e1,e10,e11,e12,hl,hx,hp];rfl) (by simp only[go_sem,e0,e1,e10,e11,e12,hl,hx,hp];rfl) ?_;refine c207 (es := es') (S := run S h a) (hourOf h a) x q1 q2 (hbd.sm (by omega)) hn2 (by omega) fun r2 es2 s2 g1 g2 g3 g4 => ?_)
      repeat first|refine Wr ?_|refine Wb ?_|refine Wc ?_|refine Wd ?_|refine We ?_|refine Wf ?_|refine Wg ?_|refine Wh ?_|refine Wi ?_|refine Wj (by decide) ?_|refine Wa ?_|refine Wk ?_|refine Wl ?_|refine Wm ?_|refine Wn ?_|refine Wo ?_|refine Wp ?_|refine Wq ?_|refine Ww (by simp only[go_sem,e0,e1,e10,e11,e12,hw];done) ?_|((first|refine Ws ?_|refine Wt ?_|refine Wu ?_|refine Wv (by simp only[go_sem,e0,e1,e10,e11,e12,hw];done) ?_);conv=>arg 2;simp only[go_sem,e0,e1,e10,e11,e12,hw])
      refine ⟨b.length, by simp at hbn; omega, a ++ [x], b, r2, es2, by simp [hab], rfl, ?_, ?_, ?_, ?_, ?_, g1, ?_, St.le_trans q3 g4, ?_⟩
      any_goals (simp only [go_sem, e0, e1, e10, e11, e12, hw]; done)
      · simp only [go_sem, hourOf_append]; rfl
      · rw [run_append]; exact g3
      · right
        cases ho : s r2 with
        | none => rfl
        | some o => rw [q3 _ _ ho] at g2; cases g2

theorem c202 (hq : Q (.agg [.int 0, .int 0, .int 0, .int 0, .int 0]) s) : Call prog (.fn 202 [] []) [] s Q := by
  refine Call.fn F202 p202 rfl ?_
  simp only [F202]
  repeat first|refine Wr ?_|refine Wb ?_|refine Wc ?_|refine Wd ?_|refine We ?_|refine Wf ?_|refine Wg ?_|refine Wh ?_|refine Wi ?_|refine Wj (by decide) ?_|refine Wa ?_|refine Wk ?_|refine Wl ?_|refine Wm ?_|refine Wn ?_|refine Wo ?_|refine Wp ?_|refine Wq ?_|refine Ww (by simp only[go_sem];done) ?_|((first|refine Ws ?_|refine Wt ?_|refine Wu ?_|refine Wv (by simp only[go_sem];done) ?_);conv=>arg 2;simp only[go_sem])
  first|refine w_retQ ?_|refine w_endQ ?_
  conv=>arg 1;simp only[go_sem]
  exact w_res (by simp only [go_sem]) hq

/-- How many notes there are of a kind. -/
def cnt (k : Int) (ns : List Note) : Int := ((ns.filter fun n => n.kind == k).length : Int)
theorem cnt_nil (k : Int) : cnt k [] = 0 := rfl
theorem cnt_snoc (k : Int) (ns : List Note) (x : Note) : cnt k (ns ++ [x]) = cnt k ns + (if x.kind = k then 1 else 0) := by
  unfold cnt
  rw [List.filter_append]
  by_cases h : x.kind = k <;> simp [h]
theorem cnt_le (k : Int) (ns : List Note) : 0 ≤ cnt k ns ∧ cnt k ns ≤ ns.length := by
  unfold cnt
  have := List.length_filter_le (fun n : Note => n.kind == k) ns
  omega
def openV (b : Book) : V := seineV b (cnt 0 b.notes) (cnt 1 b.notes) (cnt 2 b.notes) (cnt 3 b.notes) (cnt 4 b.notes)

set_option maxHeartbeats 1000000 in
theorem c110 (b : Book) (hlen : b.notes.length ≤ 100) (hk : ∀ n ∈ b.notes, 0 ≤ n.kind ∧ n.kind ≤ 4) (hq : Q (openV b) s) : Call prog (.fn 110 [] []) [bookV b] s Q := by
  refine Call.fn F110 p110 rfl ?_
  simp only [F110, bookV]
  repeat first|refine Wr ?_|refine Wb ?_|refine Wc ?_|refine Wd ?_|refine We ?_|refine Wf ?_|refine Wg ?_|refine Wh ?_|refine Wi ?_|refine Wj (by decide) ?_|refine Wa ?_|refine Wk ?_|refine Wl ?_|refine Wm ?_|refine Wn ?_|refine Wo ?_|refine Wp ?_|refine Wq ?_|refine Ww (by simp only[go_sem,notesV_length];done) ?_|((first|refine Ws ?_|refine Wt ?_|refine Wu ?_|refine Wv (by simp only[go_sem,notesV_length];done) ?_);conv=>arg 2;simp only[go_sem,notesV_length])
  refine w_iter (fun n e s' => ∃ (a r : List Note), b.notes = a ++ r ∧ r.length = n ∧ e 3 = .agg [.int b.lo, .int b.hi, .lst (notesV b.notes) .any, .int (cnt 0 a), .int (cnt 1 a), .int (cnt 2 a), .int (cnt 3 a), .int (cnt 4 a)] ∧ e 2 = .agg [.int 0, .int 0, .lst [] .exact, .int 0, .int 0, .int 0, .int 0, .int 0] ∧
    e 9 = .lst (notesV b.notes) .any ∧ e 10 = .int b.notes.length ∧ e 11 = .int a.length ∧ s' = s) b.notes.length ?_ ?_
  · refine ⟨[], b.notes, rfl, rfl, ?_, ?_, ?_, ?_, ?_, rfl⟩
    any_goals (simp only [go_sem, List.length_nil, Int.natCast_zero, cnt_nil, notesV_length]; done)
  · rintro n e s' ⟨a, r, hab, hrn, e3, e2, e9, e10, e11, rfl⟩
    cases r with
    | nil =>
      have hl : ¬ ((a.length : Int) < (b.notes.length : Int)) := by rw [hab]; simp
      repeat first|refine Wr ?_|refine Wb ?_|refine Wc ?_|refine Wd ?_|refine We ?_|refine Wf ?_|refine Wg ?_|refine Wh ?_|refine Wi ?_|refine Wj (by decide) ?_|refine Wa ?_|refine Wk ?_|refine Wl ?_|refine Wm ?_|refine Wn ?_|refine Wo ?_|refine Wp ?_|refine Wq ?_|refine Ww (by simp only[go_sem,e2,e3,e9,e10,e11,hl];done) ?_|((first|refine Ws ?_|refine Wt ?_|refine Wu ?_|refine Wv (by simp only[go_sem,e2,e3,e9,e10,e11,hl];done) ?_);conv=>arg 2;simp only[go_sem,e2,e3,e9,e10,e11,hl])
      first|refine w_retQ ?_|refine w_endQ ?_
      conv=>arg 1;simp only[go_sem]
      have hns : b.notes = a := by simpa using hab
      refine w_res (v := openV b) ?_ hq
      simp only [go_sem, openV, seineV, hns]
    | cons x r =>
      have hl : ((a.length : Int) < (b.notes.length : Int)) := by rw [hab]; simp; omega
      have hx : (notesV b.notes)[((a.length : Int)).toNat]? = some (.agg [.int x.kind, .int x.hour, .int x.lo, .int x.hi]) := by rw [hab]; exact notesV_at
      have hp := len_nonneg a
      have hal : (a.length : Int) + 1 ≤ b.notes.length := by omega
      have hw : w64 ((a.length : Int) + 1) = (a ++ [x]).length := by rw [w64_id (by omega)]; simp
      have hkx := hk x (by rw [hab]; simp)
      have hkx' : 0 ≤ x.kind ∧ x.kind < 5 := by omega
      have c : ∀ k, 0 ≤ cnt k a ∧ cnt k a ≤ 100 := fun k => by have := cnt_le k a; omega
      have : x.kind = 0 ∨ x.kind = 1 ∨ x.kind = 2 ∨ x.kind = 3 ∨ x.kind = 4 := by omega
      have h0 := c 0; have h1 := c 1; have h2 := c 2; have h3 := c 3; have h4 := c 4
      have w0 : w64 (cnt 0 a + 1) = cnt 0 a + 1 := w64_id (by omega)
      have w1 : w64 (cnt 1 a + 1) = cnt 1 a + 1 := w64_id (by omega)
      have w2 : w64 (cnt 2 a + 1) = cnt 2 a + 1 := w64_id (by omega)
      have w3 : w64 (cnt 3 a + 1) = cnt 3 a + 1 := w64_id (by omega)
      have w4 : w64 (cnt 4 a + 1) = cnt 4 a + 1 := w64_id (by omega)
      rcases this with h | h | h | h | h
      all_goals
        rw [h] at hx
        repeat first|refine Wr ?_|refine Wb ?_|refine Wc ?_|refine Wd ?_|refine We ?_|refine Wf ?_|refine Wg ?_|refine Wh ?_|refine Wi ?_|refine Wj (by decide) ?_|refine Wa ?_|refine Wk ?_|refine Wl ?_|refine Wm ?_|refine Wn ?_|refine Wo ?_|refine Wp ?_|refine Wq ?_|refine Ww (by simp only[go_sem,e2,e3,e9,e10,e11,hl,hx,hp,hw,w0,w1,w2,w3,w4];done) ?_|((first|refine Ws ?_|refine Wt ?_|refine Wu ?_|refine Wv (by simp only[go_sem,e2,e3,e9,e10,e11,hl,hx,hp,hw,w0,w1,w2,w3,w4];done) ?_);conv=>arg 2;simp only[go_sem,e2,e3,e9,e10,e11,hl,hx,hp,hw,w0,w1,w2,w3,w4])
        refine ⟨_, ?_, a ++ [x], r, by simp [hab], rfl, ?_, ?_, ?_, ?_, ?_, rfl⟩
        any_goals (simp only [go_sem, e2, e3, e9, e10, e11, hw, w0, w1, w2, w3, w4, cnt_snoc, h]; done)
        all_goals first | (simp [go_sem, cnt_snoc, h]; done) | (simp at hrn; omega)

theorem cnt_zero {ns : List Note} (hk : ∀ n ∈ ns, 0 ≤ n.kind ∧ n.kind ≤ 4) : (cnt 0 ns = 0 ∧ cnt 1 ns = 0 ∧ cnt 2 ns = 0 ∧ cnt 3 ns = 0 ∧ cnt 4 ns = 0) ↔ ns = [] := by
  constructor
  · rintro ⟨h0, h1, h2, h3, h4⟩
    match ns with
    | [] => rfl
    | n :: ns =>
      exfalso
      have := hk n (by simp)
      have hc : ∀ k, n.kind = k → 0 < cnt k (n :: ns) := by
        rintro k rfl
        unfold cnt
        simp
      have : n.kind = 0 ∨ n.kind = 1 ∨ n.kind = 2 ∨ n.kind = 3 ∨ n.kind = 4 := by omega
      rcases this with h | h | h | h | h
      · have := hc 0 h; omega
      · have := hc 1 h; omega
      · have := hc 2 h; omega
      · have := hc 3 h; omega
      · have := hc 4 h; omega
  · rintro rfl
    exact ⟨rfl, rfl, rfl, rfl, rfl⟩
theorem can_nil {b : Book} (h : okSpan b.lo b.hi 400) (hn : b.notes = []) : can b := by
  refine ⟨(b.lo, 0), ?_⟩
  rw [hn]
  unfold okSpan at h
  exact ⟨⟨Int.le_refl _, h.2.1⟩, rfl⟩

/-- A book that may be gone through: a valid one, or one with a note more. -/
def ok' (b : Book) : Prop := okSpan b.lo b.hi 400 ∧ b.notes.length ≤ 9 ∧ okNotes 0 b.notes
theorem ok.ok' {b : Book} (h : ok b) : ok' b := ⟨h.1, by have := h.2.1; omega, h.2.2⟩
theorem okNotes_kind : ∀ {ns : List Note} {h : Int}, okNotes h ns → ∀ n ∈ ns, okNote n
  | [], _, _, n, hn => by simp at hn
  | m :: ns, h, hm, n, hn => by
    rcases List.mem_cons.1 hn with rfl | hn
    · exact hm.1.1
    · exact okNotes_kind hm.2 n hn

open Classical in
theorem c111 (b : Book) (hb : ok' b) (hq : ∀ s', s ≤ s' → Q (.bool (decide (can b))) s') : Call prog (.fn 111 [] []) [openV b] s Q := by
  refine Call.fn F111 p111 rfl ?_
  have hk : ∀ n ∈ b.notes, 0 ≤ n.kind ∧ n.kind ≤ 4 := fun n hn => (okNotes_kind hb.2.2 n hn).1
  have hz := cnt_zero hk
  simp only [F111, openV, seineV]
  by_cases hn : b.notes = []
  · have hc : can b := can_nil hb.1 hn
    obtain ⟨z0, z1, z2, z3, z4⟩ := hz.2 hn
    repeat first|refine Wr ?_|refine Wb ?_|refine Wc ?_|refine Wd ?_|refine We ?_|refine Wf ?_|refine Wg ?_|refine Wh ?_|refine Wi ?_|refine Wj (by decide) ?_|refine Wa ?_|refine Wk ?_|refine Wl ?_|refine Wm ?_|refine Wn ?_|refine Wo ?_|refine Wp ?_|refine Wq ?_|refine Ww (by simp only[go_sem,z0,z1,z2,z3,z4];done) ?_|((first|refine Ws ?_|refine Wt ?_|refine Wu ?_|refine Wv (by simp only[go_sem,z0,z1,z2,z3,z4];done) ?_);conv=>arg 2;simp only[go_sem,z0,z1,z2,z3,z4])|(refine Wx (by simp only[go_sem,z0,z1,z2,z3,z4];rfl) (by simp only[go_sem,z0,z1,z2,z3,z4];rfl) ?_;refine c202 ?_)
    first|refine w_retQ ?_|refine w_endQ ?_
    conv=>arg 1;simp only[go_sem]
    exact w_res (by simp only [go_sem, hc, decide_true]) (hq s (St.le_refl s))
  · have hz' : (cnt 0 b.notes == 0 && (cnt 1 b.notes == 0 && (cnt 2 b.notes == 0 && (cnt 3 b.notes == 0 && cnt 4 b.notes == 0)))) = false := by
      rw [Bool.eq_false_iff]
      intro h
      simp at h
      exact hn (hz.1 ⟨h.1, h.2.1, h.2.2.1, h.2.2.2.1, h.2.2.2.2⟩)
    have hlen : (b.notes.length : Int) ≤ 9 := by have := hb.2.1; omega
    repeat first|refine Wr ?_|refine Wb ?_|refine Wc ?_|refine Wd ?_|refine We ?_|refine Wf ?_|refine Wg ?_|refine Wh ?_|refine Wi ?_|refine Wj (by decide) ?_|refine Wa ?_|refine Wk ?_|refine Wl ?_|refine Wm ?_|refine Wn ?_|refine Wo ?_|refine Wp ?_|refine Wq ?_|refine Ww (by simp only[go_sem,hz'];done) ?_|((first|refine Ws ?_|refine Wt ?_|refine Wu ?_|refine Wv (by simp only[go_sem,hz'];done) ?_);conv=>arg 2;simp only[go_sem,hz'])|(refine Wx (by simp only[go_sem,hz'];rfl) (by simp only[go_sem,hz'];rfl) ?_;first|refine c202 ?_|refine c129 b _ _ _ _ _ hb.1 fun r es s1 g1 g2 g3 g4 => ?_|refine c128 (es := es) (S := begun b) (k := 0) 0 b.notes g1 g3 (begun_bd hb.1) (by omega) hb.2.2 (by omega) fun r2 es2 s2 g5 _ g6 g7 => ?_)
    refine w_setlen (es := es2) (by simp only [go_sem]) g5 g6 fun n hn => ?_
    repeat first|refine Wr ?_|refine Wb ?_|refine Wc ?_|refine Wd ?_|refine We ?_|refine Wf ?_|refine Wg ?_|refine Wh ?_|refine Wi ?_|refine Wj (by decide) ?_|refine Wa ?_|refine Wk ?_|refine Wl ?_|refine Wm ?_|refine Wn ?_|refine Wo ?_|refine Wp ?_|refine Wq ?_|refine Ww (by simp only[go_sem];done) ?_|((first|refine Ws ?_|refine Wt ?_|refine Wu ?_|refine Wv (by simp only[go_sem];done) ?_);conv=>arg 2;simp only[go_sem])
    first|refine w_retQ ?_|refine w_endQ ?_
    conv=>arg 1;simp only[go_sem]
    refine w_res (v := .bool (decide (can b))) ?_ (hq s2 (St.le_trans g4 g7))
    simp only [go_sem]
    congr 1
    rw [decide_eq_decide]
    unfold can
    rw [← hn]
    omega
end Go.Hu.Sn

set_option linter.unusedSimpArgs false
set_option linter.unusedVariables false
namespace Go.Hu.Sn
attribute [local irreducible] wpS wpIs wpI
attribute [local go_sem] Nat.mul_one Nat.one_mul Nat.zero_add Nat.add_zero Nat.zero_mul and_self and_true true_and decide_true decide_false Bool.false_eq_true if_true if_false Int.cast_ofNat_Int Int.zero_le_ofNat Int.le_refl Int.reduceLT Int.reduceLE Int.reduceToNat

variable {s : St} {Q : V → St → Prop}

/-- The cells of a book in the calculation. -/
def openC (b : Book) : List V := [.int b.lo, .int b.hi, .lst (notesV b.notes) .any, .int (cnt 0 b.notes), .int (cnt 1 b.notes), .int (cnt 2 b.notes), .int (cnt 3 b.notes), .int (cnt 4 b.notes)]

theorem drop_at {ns : List Note} {k : Nat} (h : k < ns.length) : ∃ a x r, ns = a ++ x :: r ∧ a.length = k ∧ ns.drop k = x :: r := by
  refine ⟨ns.take k, ns[k], ns.drop (k + 1), ?_, by simp; omega, List.drop_eq_getElem_cons h⟩
  rw [← List.drop_eq_getElem_cons h, List.take_append_drop]

open Classical in
set_option maxHeartbeats 1000000 in
theorem c250 (b : Book) (hlen : b.notes.length ≤ 100) (lg : Nat) : ∀ (m k : Nat) (s : St) (Q : V → St → Prop) (r : Nat) (es : List (V × V)) (S : XS) (h kk : Int), k + m = b.notes.length →
    s lg = some (.cells [.fn 250 [] [.rptr (openC b) 0, .ptr lg 0]]) → s r = some (.map es) → Keys xV es S → Bd kk S → 0 ≤ kk → kk + m ≤ 100 → 0 ≤ h → okNotes h (b.notes.drop k) →
    (∀ s', s ≤ s' → Q (.bool (decide (∃ z, run S h (b.notes.drop k) z))) s') → Call prog (.fn 250 [] [.rptr (openC b) 0, .ptr lg 0]) [.map (some r), .int h, .int k] s Q := by
  intro m
  induction m with
  | zero =>
    intro k s Q r es S h kk hkm hg hs hS hb hk0 hk1 hh hn hq
    refine Call.fn F250 p250 rfl ?_
    simp only [F250, openC]
    have hkl : ((k : Int) == (b.notes.length : Int)) = true := by simp; omega
    repeat first|refine Wr ?_|refine Wb ?_|refine Wc ?_|refine Wd ?_|refine We ?_|refine Wf ?_|refine Wg ?_|refine Wh ?_|refine Wi ?_|refine Wj (by decide) ?_|refine Wa ?_|refine Wk ?_|refine Wl ?_|refine Wm ?_|refine Wn ?_|refine Wo ?_|refine Wp ?_|refine Wq ?_|refine Ww (by simp only[go_sem,hkl,notesV_length];done) ?_|((first|refine Ws ?_|refine Wt ?_|refine Wu ?_|refine Wv (by simp only[go_sem,hkl,notesV_length];done) ?_);conv=>arg 2;simp only[go_sem,hkl,notesV_length])
    refine w_setlen (es := es) (by simp only [go_sem]) hs hS fun n hn2 => ?_
    repeat first|refine Wr ?_|refine Wb ?_|refine Wc ?_|refine Wd ?_|refine We ?_|refine Wf ?_|refine Wg ?_|refine Wh ?_|refine Wi ?_|refine Wj (by decide) ?_|refine Wa ?_|refine Wk ?_|refine Wl ?_|refine Wm ?_|refine Wn ?_|refine Wo ?_|refine Wp ?_|refine Wq ?_|refine Ww (by simp only[go_sem];done) ?_|((first|refine Ws ?_|refine Wt ?_|refine Wu ?_|refine Wv (by simp only[go_sem];done) ?_);conv=>arg 2;simp only[go_sem])
    first|refine w_retQ ?_|refine w_endQ ?_
    conv=>arg 1;simp only[go_sem]
    refine w_res ?_ (hq s (St.le_refl s))
    simp only [go_sem]
    congr 1
    rw [decide_eq_decide]
    have : b.notes.drop k = [] := List.drop_eq_nil_of_le (by omega)
    rw [this]
    simp only [run]
    rw [← hn2]
    omega
  | succ m ih =>
    intro k s Q r es S h kk hkm hg hs hS hb hk0 hk1 hh hn hq
    refine Call.fn F250 p250 rfl ?_
    simp only [F250, openC]
    have hkl : ((k : Int) == (b.notes.length : Int)) = false := by rw [beq_eq_false_iff_ne]; omega
    repeat first|refine Wr ?_|refine Wb ?_|refine Wc ?_|refine Wd ?_|refine We ?_|refine Wf ?_|refine Wg ?_|refine Wh ?_|refine Wi ?_|refine Wj (by decide) ?_|refine Wa ?_|refine Wk ?_|refine Wl ?_|refine Wm ?_|refine Wn ?_|refine Wo ?_|refine Wp ?_|refine Wq ?_|refine Ww (by simp only[go_sem,hkl,notesV_length];done) ?_|((first|refine Ws ?_|refine Wt ?_|refine Wu ?_|refine Wv (by simp only[go_sem,hkl,notesV_length];done) ?_);conv=>arg 2;simp only[go_sem,hkl,notesV_length])
    refine w_setlen (es := es) (by simp only [go_sem]) hs hS fun n hn2 => ?_
    by_cases hn0 : (n : Int) = 0
    · have hno : ∀ x, ¬ S x := fun x hx => by have := hn2.2 ⟨x, hx⟩; omega
      have hfalse : ¬ ∃ z, run S h (b.notes.drop k) z := fun ⟨z, hz⟩ => run_none hno z hz
      have hb0 : ((n : Int) == 0) = true := by simpa using hn0
      repeat first|refine Wr ?_|refine Wb ?_|refine Wc ?_|refine Wd ?_|refine We ?_|refine Wf ?_|refine Wg ?_|refine Wh ?_|refine Wi ?_|refine Wj (by decide) ?_|refine Wa ?_|refine Wk ?_|refine Wl ?_|refine Wm ?_|refine Wn ?_|refine Wo ?_|refine Wp ?_|refine Wq ?_|refine Ww (by simp only[go_sem,hkl,hb0];done) ?_|((first|refine Ws ?_|refine Wt ?_|refine Wu ?_|refine Wv (by simp only[go_sem,hkl,hb0];done) ?_);conv=>arg 2;simp only[go_sem,hkl,hb0])
      refine w_setlen (es := es) (by simp only [go_sem]) hs hS fun n' hn3 => ?_
      have hn0' : ¬ ((n' : Int) > 0) := fun h => by
        obtain ⟨x, hx⟩ := hn3.1 (by omega)
        exact hno x hx
      repeat first|refine Wr ?_|refine Wb ?_|refine Wc ?_|refine Wd ?_|refine We ?_|refine Wf ?_|refine Wg ?_|refine Wh ?_|refine Wi ?_|refine Wj (by decide) ?_|refine Wa ?_|refine Wk ?_|refine Wl ?_|refine Wm ?_|refine Wn ?_|refine Wo ?_|refine Wp ?_|refine Wq ?_|refine Ww (by simp only[go_sem,hkl,hb0,hn0'];done) ?_|((first|refine Ws ?_|refine Wt ?_|refine Wu ?_|refine Wv (by simp only[go_sem,hkl,hb0,hn0'];done) ?_);conv=>arg 2;simp only[go_sem,hkl,hb0,hn0'])
      first|refine w_retQ ?_|refine w_endQ ?_
      conv=>arg 1;simp only[go_sem]
      exact w_res (by simp only [go_sem, hfalse, decide_false]) (hq s (St.le_refl s))
    · have hb0 : ((n : Int) == 0) = false := by simpa using hn0
      obtain ⟨a, x, rr, hab, hal, hdr⟩ := drop_at (ns := b.notes) (k := k) (by omega)
      have hx : (notesV b.notes)[((k : Int)).toNat]? = some (.agg [.int x.kind, .int x.hour, .int x.lo, .int x.hi]) := by rw [← hal, hab]; exact notesV_at
      have hp : 0 ≤ (k : Int) := by omega
      have hw : w64 ((k : Int) + 1) = ((k + 1 : Nat) : Int) := by rw [w64_id (by omega)]; simp
      rw [hdr] at hn
      obtain ⟨⟨hn2', hn3⟩, hn4⟩ := hn
      have hrr : b.notes.drop (k + 1) = rr := by
        have : b.notes.drop (k + 1) = (b.notes.drop k).drop 1 := by rw [List.drop_drop]
        rw [this, hdr]
        rfl
      repeat first|refine Wr ?_|refine Wb ?_|refine Wc ?_|refine Wd ?_|refine We ?_|refine Wf ?_|refine Wg ?_|refine Wh ?_|refine Wi ?_|refine Wj (by decide) ?_|refine Wa ?_|refine Wk ?_|refine Wl ?_|refine Wm ?_|refine Wn ?_|refine Wo ?_|refine Wp ?_|refine Wq ?_|refine Ww (by simp only[go_sem,hkl,hb0];done) ?_|((first|refine Ws ?_|refine Wt ?_|refine Wu ?_|refine Wv (by simp only[go_sem,hkl,hb0];done) ?_);conv=>arg 2;simp only[go_sem,hkl,hb0])
      refine w_op ?_
      simp only [wpO, go_sem, hg]
      repeat first|refine Wr ?_|refine Wb ?_|refine Wc ?_|refine Wd ?_|refine We ?_|refine Wf ?_|refine Wg ?_|refine Wh ?_|refine Wi ?_|refine Wj (by decide) ?_|refine Wa ?_|refine Wk ?_|refine Wl ?_|refine Wm ?_|refine Wn ?_|refine Wo ?_|refine Wp ?_|refine Wq ?_|refine Ww (by simp only[go_sem,hkl,hb0,hx,hp,hw];done) ?_|((first|refine Ws ?_|refine Wt ?_|refine Wu ?_|refine Wv (by simp only[go_sem,hkl,hb0,hx,hp,hw];done) ?_);conv=>arg 2;simp only[go_sem,hkl,hb0,hx,hp,hw])
      refine w_callq (by simp only [go_sem]; rfl) (by simp only [go_sem, hx, hp]; rfl) ?_
      refine c207 (es := es) (S := S) h x hs hS (hb.sm (by omega)) hn2' (by omega) fun r2 es2 s2 g1 g2 g3 g4 => ⟨g4, ?_⟩
      repeat first|refine Wr ?_|refine Wb ?_|refine Wc ?_|refine Wd ?_|refine We ?_|refine Wf ?_|refine Wg ?_|refine Wh ?_|refine Wi ?_|refine Wj (by decide) ?_|refine Wa ?_|refine Wk ?_|refine Wl ?_|refine Wm ?_|refine Wn ?_|refine Wo ?_|refine Wp ?_|refine Wq ?_|refine Ww (by simp only[go_sem,hkl,hb0,hx,hp,hw];done) ?_|((first|refine Ws ?_|refine Wt ?_|refine Wu ?_|refine Wv (by simp only[go_sem,hkl,hb0,hx,hp,hw];done) ?_);conv=>arg 2;simp only[go_sem,hkl,hb0,hx,hp,hw])
      refine w_call (by simp only [go_sem, openC]; rfl) (by simp only [go_sem]; rfl) ?_
      have hho := hn2'.2.1
      refine ih (k + 1) s2 _ r2 es2 (step S h x) x.hour (kk + 1) (by omega) (g4 _ _ hg) g1 g3 (step_bd hb hk0 hn2' hn3) (by omega) (by omega) (by omega) (by rw [hrr]; exact hn4) fun s3 h3 => ?_
      repeat first|refine Wr ?_|refine Wb ?_|refine Wc ?_|refine Wd ?_|refine We ?_|refine Wf ?_|refine Wg ?_|refine Wh ?_|refine Wi ?_|refine Wj (by decide) ?_|refine Wa ?_|refine Wk ?_|refine Wl ?_|refine Wm ?_|refine Wn ?_|refine Wo ?_|refine Wp ?_|refine Wq ?_|refine Ww (by simp only[go_sem];done) ?_|((first|refine Ws ?_|refine Wt ?_|refine Wu ?_|refine Wv (by simp only[go_sem];done) ?_);conv=>arg 2;simp only[go_sem])
      first|refine w_retQ ?_|refine w_endQ ?_
      conv=>arg 1;simp only[go_sem]
      refine w_res ?_ (hq s3 (St.le_trans g4 h3))
      simp only [go_sem, hrr, hdr, run]

open Classical in
theorem c204 (b : Book) (hlen : b.notes.length ≤ 100) (x : X) (h kk : Int) (k : Nat) (hk : k ≤ b.notes.length) (hb : Bd kk (· = x)) (hk0 : 0 ≤ kk) (hk1 : kk + (b.notes.length - k : Nat) ≤ 100) (hh : 0 ≤ h) (hn : okNotes h (b.notes.drop k))
    (hq : ∀ s', s ≤ s' → Q (.bool (decide (∃ z, run (· = x) h (b.notes.drop k) z))) s') : Call prog (.fn 204 [] []) [openV b, xV x, .int h, .int k] s Q := by
  refine Call.fn F204 p204 rfl ?_
  simp only [F204, openV, seineV, xV]
  repeat first|refine Wr ?_|refine Wb ?_|refine Wc ?_|refine Wd ?_|refine We ?_|refine Wf ?_|refine Wg ?_|refine Wh ?_|refine Wi ?_|refine Wj (by decide) ?_|refine Wa ?_|refine Wk ?_|refine Wl ?_|refine Wm ?_|refine Wn ?_|refine Wo ?_|refine Wp ?_|refine Wq ?_|refine Ww (by simp only[go_sem];done) ?_|((first|refine Ws ?_|refine Wt ?_|refine Wu ?_|refine Wv (by simp only[go_sem];done) ?_);conv=>arg 2;simp only[go_sem])
  refine w_op ?_
  simp only [wpO, go_sem, true_and]
  intro lg hlg
  repeat first|refine Wr ?_|refine Wb ?_|refine Wc ?_|refine Wd ?_|refine We ?_|refine Wf ?_|refine Wg ?_|refine Wh ?_|refine Wi ?_|refine Wj (by decide) ?_|refine Wa ?_|refine Wk ?_|refine Wl ?_|refine Wm ?_|refine Wn ?_|refine Wo ?_|refine Wp ?_|refine Wq ?_|refine Ww (by simp only[go_sem];done) ?_|((first|refine Ws ?_|refine Wt ?_|refine Wu ?_|refine Wv (by simp only[go_sem];done) ?_);conv=>arg 2;simp only[go_sem])
  refine w_op ?_
  simp only [wpO, go_sem, St.set_get, List.length_cons, List.length_nil, Nat.zero_add, Nat.add_zero, Nat.le_refl, if_true, true_and]
  have hs1 : ∀ o o', (s.set lg o).set lg o' = s.set lg o' := fun o o' => by funext l; simp only [St.set]; split <;> rfl
  rw [hs1]
  repeat first|refine Wr ?_|refine Wb ?_|refine Wc ?_|refine Wd ?_|refine We ?_|refine Wf ?_|refine Wg ?_|refine Wh ?_|refine Wi ?_|refine Wj (by decide) ?_|refine Wa ?_|refine Wk ?_|refine Wl ?_|refine Wm ?_|refine Wn ?_|refine Wo ?_|refine Wp ?_|refine Wq ?_|refine Ww (by simp only[go_sem];done) ?_|((first|refine Ws ?_|refine Wt ?_|refine Wu ?_|refine Wv (by simp only[go_sem];done) ?_);conv=>arg 2;simp only[go_sem])
  refine w_op ?_
  simp only [wpO, go_sem, St.set_get]
  repeat first|refine Wr ?_|refine Wb ?_|refine Wc ?_|refine Wd ?_|refine We ?_|refine Wf ?_|refine Wg ?_|refine Wh ?_|refine Wi ?_|refine Wj (by decide) ?_|refine Wa ?_|refine Wk ?_|refine Wl ?_|refine Wm ?_|refine Wn ?_|refine Wo ?_|refine Wp ?_|refine Wq ?_|refine Ww (by simp only[go_sem];done) ?_|((first|refine Ws ?_|refine Wt ?_|refine Wu ?_|refine Wv (by simp only[go_sem];done) ?_);conv=>arg 2;simp only[go_sem])
  refine w_setnew fun r hr => ?_
  have hne : r ≠ lg := by rintro rfl; rw [St.set_get] at hr; cases hr
  have hr0 : s r = none := by rw [St.get_other hne] at hr; exact hr
  repeat first|refine Wr ?_|refine Wb ?_|refine Wc ?_|refine Wd ?_|refine We ?_|refine Wf ?_|refine Wg ?_|refine Wh ?_|refine Wi ?_|refine Wj (by decide) ?_|refine Wa ?_|refine Wk ?_|refine Wl ?_|refine Wm ?_|refine Wn ?_|refine Wo ?_|refine Wp ?_|refine Wq ?_|refine Ww (by simp only[go_sem];done) ?_|((first|refine Ws ?_|refine Wt ?_|refine Wu ?_|refine Wv (by simp only[go_sem];done) ?_);conv=>arg 2;simp only[go_sem])
  refine w_setadd xKey (r := r) (y := x) (es := []) (S := fun _ => False) (by simp only [go_sem]) (by simp only [go_sem, xV]) (by simp only [go_sem]) St.set_get Keys.nil fun es hes => ?_
  repeat first|refine Wr ?_|refine Wb ?_|refine Wc ?_|refine Wd ?_|refine We ?_|refine Wf ?_|refine Wg ?_|refine Wh ?_|refine Wi ?_|refine Wj (by decide) ?_|refine Wa ?_|refine Wk ?_|refine Wl ?_|refine Wm ?_|refine Wn ?_|refine Wo ?_|refine Wp ?_|refine Wq ?_|refine Ww (by simp only[go_sem];done) ?_|((first|refine Ws ?_|refine Wt ?_|refine Wu ?_|refine Wv (by simp only[go_sem];done) ?_);conv=>arg 2;simp only[go_sem])
  refine w_call (by simp only [go_sem]; rfl) (by simp only [go_sem]; rfl) ?_
  refine c250 b hlen lg (b.notes.length - k) k _ _ r es (· = x) h kk (by omega) ?_ St.set_get (hes.congr fun z => by simp) hb hk0 hk1 hh hn fun s' hs' => ?_
  · rw [St.get_other hne.symm, St.get_other hne.symm, St.set_get]
    rfl
  · repeat first|refine Wr ?_|refine Wb ?_|refine Wc ?_|refine Wd ?_|refine We ?_|refine Wf ?_|refine Wg ?_|refine Wh ?_|refine Wi ?_|refine Wj (by decide) ?_|refine Wa ?_|refine Wk ?_|refine Wl ?_|refine Wm ?_|refine Wn ?_|refine Wo ?_|refine Wp ?_|refine Wq ?_|refine Ww (by simp only[go_sem];done) ?_|((first|refine Ws ?_|refine Wt ?_|refine Wu ?_|refine Wv (by simp only[go_sem];done) ?_);conv=>arg 2;simp only[go_sem])
    first|refine w_retQ ?_|refine w_endQ ?_
    conv=>arg 1;simp only[go_sem]
    refine w_res ?_ (hq s' (St.le_trans ?_ hs'))
    · simp only [go_sem]
    · exact St.le_set (St.le_set (St.le_new hlg) hr0) hr0


/-- What a receiver leaves as it was: all that came behind a state. -/
def Left (s0 s s' : St) : Prop := (∀ l o, s0 l = none → s l = some o → (∀ n, o ≠ .tok n) → s' l = some o) ∧ ∀ l, s l ≠ none → s' l ≠ none
def SameIn (s0 s s' : St) : Prop := (∀ l, s0 l ≠ none → s' l = s l) ∧ ∀ l n, s l = some (.tok n) → s' l = some (.tok n)
theorem SameIn.trans {s0 s s' s'' : St} (h : SameIn s0 s s') (h' : SameIn s0 s' s'') : SameIn s0 s s'' := ⟨fun l hl => (h'.1 l hl).trans (h.1 l hl), fun l n hn => h'.2 l n (h.2 l n hn)⟩
theorem SameIn.set {s0 s : St} {l : Nat} {o : PObj} (h0 : s0 l = none) (hn : ∀ n, s l ≠ some (.tok n)) : SameIn s0 s (s.set l o) := by
  refine ⟨fun l' hl => ?_, fun l' n h => ?_⟩
  · rw [St.get_other (by rintro rfl; exact hl h0)]
  · rw [St.get_other (by rintro rfl; exact hn n h)]; exact h
theorem SameIn.le {s0 s s' : St} (hd : ∀ l, s0 l ≠ none → s l ≠ none) (h : s ≤ s') : SameIn s0 s s' := ⟨fun l hl => same_of_le h l (hd l hl), fun l n hn => h l _ hn⟩
structure Recv (P : PProg) (s0 : St) (y : V) (A : XS) (J : XS → St → Prop) (E : St → Prop) : Prop where
  stab : ∀ T s s', J T s → SameIn s0 s s' → J T s'
  congr : ∀ T T' s, J T s → (∀ x, T x ↔ T' x) → J T' s
  take : ∀ T s x, J T s → (∀ l, s0 l ≠ none → s l ≠ none) → A x → ¬ T x → Call P y [xV x] s fun r s' => Left s0 s s' ∧ ((r = .bool true ∧ J (fun z => T z ∨ z = x) s') ∨ (r = .bool false ∧ E s'))
/-- The states behind some entries. -/
def PartAt (b : Book) (es : List (V × V)) (h : Int) (seen : List Nat) : XS := fun y => ∃ i ∈ seen, ∃ x v, es[i]? = some (xV x, v) ∧ y = pass x (h - hourOf 0 (before h b.notes)) ∧ ∃ z, run (· = y) h (later h b.notes) z

open Classical in
set_option maxHeartbeats 2000000 in
theorem c203 (b : Book) (hb : ok b) (h : Int) (hh : 0 ≤ h ∧ h ≤ 60) (y : V) (hye : y.erase = y) (J : XS → St → Prop) (E : St → Prop) (hR : Recv prog s y (atH b h) J E) (h0 : J (fun _ => False) s)
    (hq : ∀ v s', ((∃ T, (∀ x, T x ↔ atH b h x) ∧ J T s') ∨ E s') → Q v s') : Call prog (.fn 203 [] [.rptr (openC b) 0, .rptr [.int h] 0]) [y] s Q := by
  refine Call.fn F203 p203 rfl ?_
  simp only [F203, openC]
  repeat first|refine Wr ?_|refine Wb ?_|refine Wc ?_|refine Wd ?_|refine We ?_|refine Wf ?_|refine Wg ?_|refine Wh ?_|refine Wi ?_|refine Wj (by decide) ?_|refine Wa ?_|refine Wk ?_|refine Wl ?_|refine Wm ?_|refine Wn ?_|refine Wo ?_|refine Wp ?_|refine Wq ?_|refine Ww (by simp only[go_sem];done) ?_|((first|refine Ws ?_|refine Wt ?_|refine Wu ?_|refine Wv (by simp only[go_sem];done) ?_);conv=>arg 2;simp only[go_sem])
  have hlen : (b.notes.length : Int) ≤ 8 := by have := hb.2.1; omega
  refine w_iter (fun n e s' => ∃ k : Nat, n = b.notes.length - k ∧ k ≤ (before h b.notes).length ∧ e 0 = y ∧ e 1 = .rptr (openC b) 0 ∧ e 2 = .rptr [.int h] 0 ∧ e 4 = .int k ∧ s' = s) b.notes.length ?_ ?_
  · refine ⟨0, by simp, by omega, ?_, ?_, ?_, ?_, rfl⟩
    any_goals (simp only [go_sem, openC, Int.natCast_zero]; done)
  · rintro n e s' ⟨k, hn, hk, e0, e1, e2, e4, rfl⟩
    simp only [openC] at e1
    have hbl := before_later h b.notes
    have hkl : k ≤ b.notes.length := by
      have := congrArg List.length hbl
      simp at this
      omega
    have hkc : ((k : Int) < (b.notes.length : Int)) ↔ k < b.notes.length := by omega
    have hw : w64 ((k : Int) + 1) = ((k + 1 : Nat) : Int) := by rw [w64_id (by omega)]; simp
    have hp : 0 ≤ (k : Int) := by omega
    by_cases hk2 : k < (before h b.notes).length
    · have hkl2 : (k : Int) < (b.notes.length : Int) := by
        have := congrArg List.length hbl
        simp at this
        omega
      obtain ⟨a, x, r, hab, hal, hdr⟩ := drop_at (ns := b.notes) (k := k) (by omega)
      have hx : (notesV b.notes)[((k : Int)).toNat]? = some (.agg [.int x.kind, .int x.hour, .int x.lo, .int x.hi]) := by rw [← hal, hab]; exact notesV_at
      have hxh : x.hour ≤ h := by
        refine before_all (ns := b.notes) x ?_
        have h1 : b.notes[k]? = some x := by rw [hab, ← hal]; simp
        rw [← hbl, List.getElem?_append_left hk2] at h1
        exact List.mem_of_getElem? h1
      repeat first|refine Wr ?_|refine Wb ?_|refine Wc ?_|refine Wd ?_|refine We ?_|refine Wf ?_|refine Wg ?_|refine Wh ?_|refine Wi ?_|refine Wj (by decide) ?_|refine Wa ?_|refine Wk ?_|refine Wl ?_|refine Wm ?_|refine Wn ?_|refine Wo ?_|refine Wp ?_|refine Wq ?_|refine Ww (by simp only[go_sem,e0,e1,e2,e4,notesV_length,hkl2,hx,hp,hxh,hw];done) ?_|((first|refine Ws ?_|refine Wt ?_|refine Wu ?_|refine Wv (by simp only[go_sem,e0,e1,e2,e4,notesV_length,hkl2,hx,hp,hxh,hw];done) ?_);conv=>arg 2;simp only[go_sem,e0,e1,e2,e4,notesV_length,hkl2,hx,hp,hxh,hw])
      refine ⟨_, ?_, k + 1, rfl, by omega, ?_, ?_, ?_, ?_, rfl⟩
      any_goals (simp only [go_sem, e0, e1, e2, e4, hw, openC]; done)
      omega
    · have hke : k = (before h b.notes).length := by omega
      have hcond : (¬ (k : Int) < (b.notes.length : Int)) ∨ ∃ x r, later h b.notes = x :: r ∧ (k : Int) < (b.notes.length : Int) ∧ (notesV b.notes)[((k : Int)).toNat]? = some (.agg [.int x.kind, .int x.hour, .int x.lo, .int x.hi]) := by
        cases hl : later h b.notes with
        | nil =>
          left
          rw [hl] at hbl
          rw [← hbl]
          simp
          omega
        | cons x r =>
          right
          rw [hl] at hbl
          refine ⟨x, r, rfl, ?_, ?_⟩
          · rw [← hbl]; simp; omega
          · rw [← hbl, hke]; exact notesV_at
      have hslc : (notesV b.notes).take ((k : Int)).toNat = notesV (before h b.notes) := by
        rw [Int.toNat_natCast, hke]
        conv => lhs; rw [← hbl, notesV_append]
        rw [before_later, ← notesV_length (before h b.notes), List.take_left]
      have hkl3 : (k : Int) ≤ (b.notes.length : Int) := by omega
      have hokb : okNotes 0 (before h b.notes) := by
        have := hb.2.2
        rw [← hbl] at this
        exact (okNotes_append.1 this).1
      have hokl : okNotes h (later h b.notes) := by
        have := hb.2.2
        rw [← hbl] at this
        exact okNotes_later (okNotes_append.1 this).2 fun x r e => Int.le_of_lt (later_first e)
      have hhb := hourOf_le hokb
      have hhl : hourOf 0 (before h b.notes) ≤ h := hourOf_before hh.1 before_all
      have hbl2 : ((before h b.notes).length : Int) ≤ 8 := by omega
      have hw2 : w64 (h - hourOf 0 (before h b.notes)) = h - hourOf 0 (before h b.notes) := w64_id (by omega)
      have hdrop : b.notes.drop k = later h b.notes := by
        conv => lhs; rw [← hbl, hke]
        simp
      have hhd := hd_notes b.notes
      obtain ⟨fx, hfx⟩ : ∃ fx : Note, ((¬ (k : Int) < (b.notes.length : Int)) ∧ 0 ≤ (k : Int) ∧ 0 ≤ (k : Int)) ∨ ((k : Int) < (b.notes.length : Int) ∧ (notesV b.notes)[((k : Int)).toNat]? = some (.agg [.int fx.kind, .int fx.hour, .int fx.lo, .int fx.hi]) ∧ ¬ fx.hour ≤ h) := by
        rcases hcond with h1 | ⟨x, r, h1, h2, h3⟩
        · exact ⟨⟨0, 0, 0, 0⟩, .inl ⟨h1, hp, hp⟩⟩
        · exact ⟨x, .inr ⟨h2, h3, by have := later_first h1; omega⟩⟩
      have hbd := run_bd (begun_bd hb.1) (Int.le_refl 0) hokb
      have hsmb := hbd.sm (by omega)
      have hopen : ∀ x, x = V.agg (openC b) → x = openV b := fun x h => h
      rcases hfx with ⟨hc1, hc2, hc3⟩ | ⟨hc1, hc2, hc3⟩
      all_goals
        repeat first|refine Wr ?_|refine Wb ?_|refine Wc ?_|refine Wd ?_|refine We ?_|refine Wf ?_|refine Wg ?_|refine Wh ?_|refine Wi ?_|refine Wj (by decide) ?_|refine Wa ?_|refine Wk ?_|refine Wl ?_|refine Wm ?_|refine Wn ?_|refine Wo ?_|refine Wp ?_|refine Wq ?_|refine Ww (by simp only[go_sem,e0,e1,e2,e4,notesV_length,hc1,hp,hc2,hc3,hkl3,hhd,hslc,ite_self,true_and];done) ?_|((first|refine Ws ?_|refine Wt ?_|refine Wu ?_|refine Wv (by simp only[go_sem,e0,e1,e2,e4,notesV_length,hc1,hp,hc2,hc3,hkl3,hhd,hslc,ite_self,true_and];done) ?_);conv=>arg 2;simp only[go_sem,e0,e1,e2,e4,notesV_length,hc1,hp,hc2,hc3,hkl3,hhd,hslc,ite_self,true_and])|(refine Wx (by simp only[go_sem,e0,e1,e2,e4,notesV_length,hc1,hp,hc2,hc3,hkl3,hhd,hslc,ite_self,true_and];rfl) (by simp only[go_sem,e0,e1,e2,e4,notesV_length,hc1,hp,hc2,hc3,hkl3,hhd,hslc,ite_self,true_and];rfl) ?_;first|refine c129 b _ _ _ _ _ hb.1 fun r1 es1 s1 g1 g2 g3 g4 => ?_|refine c128 (es := es1) (S := begun b) (k := 0) 0 (before h b.notes) g1 g3 (begun_bd hb.1) (by omega) hokb (by omega) fun r2 es2 s2 g5 g5' g6 g7 => ?_)
        refine w_setnew fun r3 hr3 => ?_
        have hn23 : r2 ≠ r3 := St.ne_of g5 hr3
        have hr20 : s' r2 = none := by
          rcases g5' with rfl | g5'
          · exact g2
          · cases ho : s' r2 with
            | none => rfl
            | some o => rw [g4 _ _ ho] at g5'; cases g5'
        have hle2 : s' ≤ s2 := St.le_trans g4 g7
        have hr30 : s' r3 = none := by
          cases ho : s' r3 with
          | none => rfl
          | some o => rw [hle2 _ _ ho] at hr3; cases hr3
        repeat first|refine Wr ?_|refine Wb ?_|refine Wc ?_|refine Wd ?_|refine We ?_|refine Wf ?_|refine Wg ?_|refine Wh ?_|refine Wi ?_|refine Wj (by decide) ?_|refine Wa ?_|refine Wk ?_|refine Wl ?_|refine Wm ?_|refine Wn ?_|refine Wo ?_|refine Wp ?_|refine Wq ?_|refine Ww (by simp only[go_sem];done) ?_|((first|refine Ws ?_|refine Wt ?_|refine Wu ?_|refine Wv (by simp only[go_sem];done) ?_);conv=>arg 2;simp only[go_sem])
        refine w_setrange (r := r2) (es := es2) (by simp only [go_sem]) (by rw [St.get_other hn23]; exact g5) fun li hli => ?_
        have hn3i : r3 ≠ li := by rintro rfl; rw [St.set_get] at hli; cases hli
        have hn2i : r2 ≠ li := by rintro rfl; rw [St.get_other hn23, g5] at hli; cases hli
        have hli0 : s' li = none := by
          rw [St.get_other hn3i.symm] at hli
          cases ho : s' li with
          | none => rfl
          | some o => rw [hle2 _ _ ho] at hli; cases hli
        repeat first|refine Wr ?_|refine Wb ?_|refine Wc ?_|refine Wd ?_|refine We ?_|refine Wf ?_|refine Wg ?_|refine Wh ?_|refine Wi ?_|refine Wj (by decide) ?_|refine Wa ?_|refine Wk ?_|refine Wl ?_|refine Wm ?_|refine Wn ?_|refine Wo ?_|refine Wp ?_|refine Wq ?_|refine Ww (by simp only[go_sem];done) ?_|((first|refine Ws ?_|refine Wt ?_|refine Wu ?_|refine Wv (by simp only[go_sem];done) ?_);conv=>arg 2;simp only[go_sem])
        refine w_iter (fun n2 e st => ∃ (seen : List Nat) (ess : List (V × V)) (T : XS), n2 = lft es2.length seen ∧ (∀ i ∈ seen, i < es2.length) ∧ e 0 = y ∧ e 1 = .rptr (openC b) 0 ∧ e 2 = .rptr [.int h] 0 ∧ e 4 = .int k ∧ e 6 = .int (hourOf 0 (before h b.notes)) ∧ e 7 = .fn 204 [openV b] [] ∧ e 8 = .map (some r3) ∧ e 44 = .iter li ∧
          st li = some (.iter (some r2) es2.length seen) ∧ st r2 = some (.map es2) ∧ st r3 = some (.map ess) ∧ Keys xV ess T ∧ (∀ x, T x ↔ PartAt b es2 h seen x) ∧ J T st ∧ ∀ l, s' l ≠ none → st l ≠ none) (lft es2.length []) ?_ ?_
        · refine ⟨[], [], fun _ => False, rfl, by simp, ?_, ?_, ?_, ?_, ?_, ?_, ?_, ?_, St.set_get, ?_, ?_, Keys.nil, fun x => ⟨False.elim, by rintro ⟨i, hi, _⟩; simp at hi⟩, hR.stab _ _ _ h0 (((SameIn.le (fun _ h => h) hle2).trans (.set hr30 fun n hn => by rw [hr3] at hn; cases hn)).trans (.set hli0 fun n hn => by rw [hli] at hn; cases hn)), fun l hl => ?_⟩
          any_goals (simp only [go_sem, e0, e1, e2, e4, openC, openV, seineV]; done)
          · rw [St.get_other hn2i, St.get_other hn23]; exact g5
          · rw [St.get_other hn3i]; exact St.set_get
          · rw [St.get_other (by rintro rfl; exact hl hli0), St.get_other (by rintro rfl; exact hl hr30), same_of_le hle2 l hl]
            exact hl
        · rintro n2 e st ⟨seen, ess, T, hn2, hlt, e0, e1, e2, e4, e6, e7, e8, e44, q1, q2, q3, q4, q5, q6, q7⟩
          simp only [openC] at e1
          simp only [openV, seineV] at e7
          repeat first|refine Wr ?_|refine Wb ?_|refine Wc ?_|refine Wd ?_|refine We ?_|refine Wf ?_|refine Wg ?_|refine Wh ?_|refine Wi ?_|refine Wj (by decide) ?_|refine Wa ?_|refine Wk ?_|refine Wl ?_|refine Wm ?_|refine Wn ?_|refine Wo ?_|refine Wp ?_|refine Wq ?_|refine Ww (by simp only[go_sem,e0,e1,e2,e4,e6,e7,e8,e44];done) ?_|((first|refine Ws ?_|refine Wt ?_|refine Wu ?_|refine Wv (by simp only[go_sem,e0,e1,e2,e4,e6,e7,e8,e44];done) ?_);conv=>arg 2;simp only[go_sem,e0,e1,e2,e4,e6,e7,e8,e44])
          refine w_setnext (es := es2) (seen := seen) (by simp only [go_sem, e44]) q1 q2 ?_ ?_
          · intro hall
            repeat first|refine Wr ?_|refine Wb ?_|refine Wc ?_|refine Wd ?_|refine We ?_|refine Wf ?_|refine Wg ?_|refine Wh ?_|refine Wi ?_|refine Wj (by decide) ?_|refine Wa ?_|refine Wk ?_|refine Wl ?_|refine Wm ?_|refine Wn ?_|refine Wo ?_|refine Wp ?_|refine Wq ?_|refine Ww (by simp only[go_sem,e0,e1,e2,e4,e6,e7,e8,e44];done) ?_|((first|refine Ws ?_|refine Wt ?_|refine Wu ?_|refine Wv (by simp only[go_sem,e0,e1,e2,e4,e6,e7,e8,e44];done) ?_);conv=>arg 2;simp only[go_sem,e0,e1,e2,e4,e6,e7,e8,e44])
            first|refine w_retQ ?_|refine w_endQ ?_
            conv=>arg 1;simp only[go_sem]
            refine w_res rfl (hq _ st (.inl ⟨T, fun x => (q5 x).trans ⟨?_, ?_⟩, q6⟩))
            · rintro ⟨i, hi, x0, v, hx0, hx1, hx2⟩
              have hm := List.mem_of_getElem? hx0
              obtain ⟨z, hz⟩ := g6.1 _ hm
              simp only [Prod.mk.injEq] at hz
              obtain rfl := xKey.inj hz.1
              rw [hz.2] at hm
              exact ⟨⟨x0, (g6.2 x0).2 hm, hx1⟩, hx2⟩
            · rintro ⟨⟨x0, hx0, hx1⟩, hx2⟩
              obtain ⟨i, hi⟩ := List.mem_iff_getElem?.1 ((g6.2 x0).1 hx0)
              exact ⟨i, hall i (List.getElem?_eq_some_iff.1 hi).1, x0, _, hi, hx1, hx2⟩
          · intro i x hx hi
            obtain ⟨x0, hx0⟩ := g6.1 x (List.mem_of_getElem? hx)
            subst hx0
            have hSx := (g6.2 x0).2 (List.mem_of_getElem? hx)
            have hil : i < es2.length := (List.getElem?_eq_some_iff.1 hx).1
            have hsx := hbd x0 hSx
            have hw2' : w64 (h - hourOf 0 (before h b.notes)) = h - hourOf 0 (before h b.notes) := hw2
            generalize hs3 : st.set li (.iter (some r2) es2.length (seen ++ [i])) = s3
            have k1 : s3 li = some (.iter (some r2) es2.length (seen ++ [i])) := by rw [← hs3]; exact St.set_get
            have k2 : s3 r2 = some (.map es2) := by rw [← hs3, St.get_other hn2i]; exact q2
            have k3 : s3 r3 = some (.map ess) := by rw [← hs3, St.get_other hn3i]; exact q3
            have k6 : J T s3 := by rw [← hs3]; exact hR.stab _ _ _ q6 (.set hli0 fun n hn => by rw [q1] at hn; cases hn)
            have k7 : ∀ l, s' l ≠ none → s3 l ≠ none := fun l hl => by rw [← hs3, St.get_other (by rintro rfl; exact hl hli0)]; exact q7 l hl
            have hlt' : ∀ j ∈ seen ++ [i], j < es2.length := by
              intro j hj
              rcases List.mem_append.1 hj with hj | hj
              · exact hlt j hj
              · simp at hj; subst hj; exact hil
            have hlft := left_lt hil hi
            repeat first|refine Wr ?_|refine Wb ?_|refine Wc ?_|refine Wd ?_|refine We ?_|refine Wf ?_|refine Wg ?_|refine Wh ?_|refine Wi ?_|refine Wj (by decide) ?_|refine Wa ?_|refine Wk ?_|refine Wl ?_|refine Wm ?_|refine Wn ?_|refine Wo ?_|refine Wp ?_|refine Wq ?_|refine Ww (by simp only[go_sem,e0,e1,e2,e4,e6,e7,e8,e44];done) ?_|((first|refine Ws ?_|refine Wt ?_|refine Wu ?_|refine Wv (by simp only[go_sem,e0,e1,e2,e4,e6,e7,e8,e44];done) ?_);conv=>arg 2;simp only[go_sem,e0,e1,e2,e4,e6,e7,e8,e44])
            refine w_setentry (es := es2) (by simp only [go_sem, e44]) k1 k2 hx ?_
            simp only [xV]
            repeat first|refine Wr ?_|refine Wb ?_|refine Wc ?_|refine Wd ?_|refine We ?_|refine Wf ?_|refine Wg ?_|refine Wh ?_|refine Wi ?_|refine Wj (by decide) ?_|refine Wa ?_|refine Wk ?_|refine Wl ?_|refine Wm ?_|refine Wn ?_|refine Wo ?_|refine Wp ?_|refine Wq ?_|refine Ww (by simp only[go_sem,e0,e1,e2,e4,e6,e7,e8,e44,hw2'];done) ?_|((first|refine Ws ?_|refine Wt ?_|refine Wu ?_|refine Wv (by simp only[go_sem,e0,e1,e2,e4,e6,e7,e8,e44,hw2'];done) ?_);conv=>arg 2;simp only[go_sem,e0,e1,e2,e4,e6,e7,e8,e44,hw2'])|(refine Wx (by simp only[go_sem,e0,e1,e2,e4,e6,e7,e8,e44,hw2'];rfl) (by simp only[go_sem,e0,e1,e2,e4,e6,e7,e8,e44,hw2'];rfl) ?_;refine c130 x0 _ (hsmb x0 hSx) (by omega) ?_)
            have hpb := pass_bd (h := h - hourOf 0 (before h b.notes)) hsx (by omega)
            have part1 : ∀ z, PartAt b es2 h (seen ++ [i]) z ↔ PartAt b es2 h seen z ∨ (z = pass x0 (h - hourOf 0 (before h b.notes)) ∧ ∃ u, run (· = z) h (later h b.notes) u) := by
              intro z
              constructor
              · rintro ⟨j, hj, x, v, hjx, hz, hu⟩
                rcases List.mem_append.1 hj with hj | hj
                · exact .inl ⟨j, hj, x, v, hjx, hz, hu⟩
                · simp at hj
                  subst hj
                  rw [hx] at hjx
                  simp only [Option.some.injEq, Prod.mk.injEq] at hjx
                  obtain rfl := xKey.inj hjx.1
                  exact .inr ⟨hz, hu⟩
              · rintro (⟨j, hj, x, v, hjx, hz, hu⟩ | ⟨hz, hu⟩)
                · exact ⟨j, by simp [hj], x, v, hjx, hz, hu⟩
                · exact ⟨i, by simp, x0, _, hx, hz, hu⟩
            have hat : (∃ u, run (· = pass x0 (h - hourOf 0 (before h b.notes))) h (later h b.notes) u) → atH b h (pass x0 (h - hourOf 0 (before h b.notes))) := fun hu => ⟨⟨x0, hSx, rfl⟩, hu⟩
            generalize pass x0 (h - hourOf 0 (before h b.notes)) = x1 at *
            refine w_setask xKey (y := x1) (es := ess) (S := T) (by simp only [go_sem, e8]) (by simp only [go_sem]) k3 q4 (fun hT => ?_) (fun hT => ?_)
            · repeat first|refine Wr ?_|refine Wb ?_|refine Wc ?_|refine Wd ?_|refine We ?_|refine Wf ?_|refine Wg ?_|refine Wh ?_|refine Wi ?_|refine Wj (by decide) ?_|refine Wa ?_|refine Wk ?_|refine Wl ?_|refine Wm ?_|refine Wn ?_|refine Wo ?_|refine Wp ?_|refine Wq ?_|refine Ww (by simp only[go_sem,e0,e1,e2,e4,e6,e7,e8,e44];done) ?_|((first|refine Ws ?_|refine Wt ?_|refine Wu ?_|refine Wv (by simp only[go_sem,e0,e1,e2,e4,e6,e7,e8,e44];done) ?_);conv=>arg 2;simp only[go_sem,e0,e1,e2,e4,e6,e7,e8,e44])
              refine ⟨_, (by rw [hn2]; exact hlft), seen ++ [i], ess, T, rfl, hlt', ?_, ?_, ?_, ?_, ?_, ?_, ?_, ?_, k1, k2, k3, q4, fun z => ?_, k6, k7⟩
              any_goals (simp only [go_sem, e0, e1, e2, e4, e6, e7, e8, e44, openC, openV, seineV]; done)
              rw [part1, ← q5 z]
              exact ⟨.inl, fun h => h.elim id fun h => by rw [h.1]; exact hT⟩
            · have hx1bd : Bd (0 + ((before h b.notes).length : Int)) (· = x1) := by rintro z rfl; exact hpb
              repeat first|refine Wr ?_|refine Wb ?_|refine Wc ?_|refine Wd ?_|refine We ?_|refine Wf ?_|refine Wg ?_|refine Wh ?_|refine Wi ?_|refine Wj (by decide) ?_|refine Wa ?_|refine Wk ?_|refine Wl ?_|refine Wm ?_|refine Wn ?_|refine Wo ?_|refine Wp ?_|refine Wq ?_|refine Ww (by simp only[go_sem,e0,e1,e2,e4,e6,e7,e8,e44];done) ?_|((first|refine Ws ?_|refine Wt ?_|refine Wu ?_|refine Wv (by simp only[go_sem,e0,e1,e2,e4,e6,e7,e8,e44];done) ?_);conv=>arg 2;simp only[go_sem,e0,e1,e2,e4,e6,e7,e8,e44])
              refine w_call (by simp only [go_sem, e7]; rfl) (by simp only [go_sem, e2, e4]; rfl) ?_
              refine Call.first (c204 b (Nat.le_trans hb.2.1 (by omega)) x1 h _ k (by omega) hx1bd (by omega) (by omega) hh.1 (by rw [hdrop]; exact hokl) fun s5 h5 => ?_)
              rw [hdrop]
              have j1 := h5 _ _ k1
              have j2 := h5 _ _ k2
              have j3 := h5 _ _ k3
              have j7 : ∀ l, s' l ≠ none → s5 l = s3 l := fun l hl => same_of_le h5 l (k7 l hl)
              have j6 : J T s5 := hR.stab _ _ _ k6 (.le k7 h5)
              by_cases hu : ∃ u, run (· = x1) h (later h b.notes) u
              · simp only [hu, decide_true]
                have hA := hat hu
                repeat first|refine Wr ?_|refine Wb ?_|refine Wc ?_|refine Wd ?_|refine We ?_|refine Wf ?_|refine Wg ?_|refine Wh ?_|refine Wi ?_|refine Wj (by decide) ?_|refine Wa ?_|refine Wk ?_|refine Wl ?_|refine Wm ?_|refine Wn ?_|refine Wo ?_|refine Wp ?_|refine Wq ?_|refine Ww (by simp only[go_sem,e0,e1,e2,e4,e6,e7,e8,e44];done) ?_|((first|refine Ws ?_|refine Wt ?_|refine Wu ?_|refine Wv (by simp only[go_sem,e0,e1,e2,e4,e6,e7,e8,e44];done) ?_);conv=>arg 2;simp only[go_sem,e0,e1,e2,e4,e6,e7,e8,e44])
                refine w_setadd xKey (r := r3) (y := x1) (es := ess) (S := T) (by simp only [go_sem, e8]) (by simp only [go_sem]) (by simp only [go_sem]) j3 q4 fun ess2 hess2 => ?_
                generalize hs6 : s5.set r3 (.map ess2) = s6
                have m1 : s6 li = some (.iter (some r2) es2.length (seen ++ [i])) := by rw [← hs6, St.get_other hn3i.symm]; exact j1
                have m2 : s6 r2 = some (.map es2) := by rw [← hs6, St.get_other hn23]; exact j2
                have m3 : s6 r3 = some (.map ess2) := by rw [← hs6]; exact St.set_get
                have m6 : J T s6 := by rw [← hs6]; exact hR.stab _ _ _ j6 (.set hr30 fun n hn => by rw [j3] at hn; cases hn)
                have m7 : ∀ l, s' l ≠ none → s6 l ≠ none := fun l hl => by rw [← hs6, St.get_other (by rintro rfl; exact hl hr30), j7 l hl]; exact k7 l hl
                repeat first|refine Wr ?_|refine Wb ?_|refine Wc ?_|refine Wd ?_|refine We ?_|refine Wf ?_|refine Wg ?_|refine Wh ?_|refine Wi ?_|refine Wj (by decide) ?_|refine Wa ?_|refine Wk ?_|refine Wl ?_|refine Wm ?_|refine Wn ?_|refine Wo ?_|refine Wp ?_|refine Wq ?_|refine Ww (by simp only[go_sem,e0,e1,e2,e4,e6,e7,e8,e44];done) ?_|((first|refine Ws ?_|refine Wt ?_|refine Wu ?_|refine Wv (by simp only[go_sem,e0,e1,e2,e4,e6,e7,e8,e44];done) ?_);conv=>arg 2;simp only[go_sem,e0,e1,e2,e4,e6,e7,e8,e44])
                refine w_call (by simp only [go_sem, e0]; rfl) (by simp only [go_sem]; rfl) ?_
                refine Call.imp (hR.take T s6 x1 m6 m7 hA hT) ?_
                rintro rr s7 ⟨⟨l1, l2⟩, ⟨rfl, n6⟩ | ⟨rfl, n6⟩⟩
                · repeat first|refine Wr ?_|refine Wb ?_|refine Wc ?_|refine Wd ?_|refine We ?_|refine Wf ?_|refine Wg ?_|refine Wh ?_|refine Wi ?_|refine Wj (by decide) ?_|refine Wa ?_|refine Wk ?_|refine Wl ?_|refine Wm ?_|refine Wn ?_|refine Wo ?_|refine Wp ?_|refine Wq ?_|refine Ww (by simp only[go_sem,e0,e1,e2,e4,e6,e7,e8,e44];done) ?_|((first|refine Ws ?_|refine Wt ?_|refine Wu ?_|refine Wv (by simp only[go_sem,e0,e1,e2,e4,e6,e7,e8,e44];done) ?_);conv=>arg 2;simp only[go_sem,e0,e1,e2,e4,e6,e7,e8,e44])
                  refine ⟨_, (by rw [hn2]; exact hlft), seen ++ [i], ess2, _, rfl, hlt', ?_, ?_, ?_, ?_, ?_, ?_, ?_, ?_, l1 _ _ hli0 m1 (by simp), l1 _ _ hr20 m2 (by simp), l1 _ _ hr30 m3 (by simp), hess2, fun z => ?_, n6, fun l hl => l2 l (m7 l hl)⟩
                  any_goals (simp only [go_sem, e0, e1, e2, e4, e6, e7, e8, e44, openC, openV, seineV]; done)
                  rw [part1, ← q5 z]
                  exact ⟨fun h => h.imp id fun h => ⟨h, by rw [h]; exact hu⟩, fun h => h.imp id fun h => h.1⟩
                · repeat first|refine Wr ?_|refine Wb ?_|refine Wc ?_|refine Wd ?_|refine We ?_|refine Wf ?_|refine Wg ?_|refine Wh ?_|refine Wi ?_|refine Wj (by decide) ?_|refine Wa ?_|refine Wk ?_|refine Wl ?_|refine Wm ?_|refine Wn ?_|refine Wo ?_|refine Wp ?_|refine Wq ?_|refine Ww (by simp only[go_sem,e0,e1,e2,e4,e6,e7,e8,e44];done) ?_|((first|refine Ws ?_|refine Wt ?_|refine Wu ?_|refine Wv (by simp only[go_sem,e0,e1,e2,e4,e6,e7,e8,e44];done) ?_);conv=>arg 2;simp only[go_sem,e0,e1,e2,e4,e6,e7,e8,e44])
                  first|refine w_retQ ?_|refine w_endQ ?_
                  conv=>arg 1;simp only[go_sem]
                  exact w_res rfl (hq _ s7 (.inr n6))
              · simp only [hu, decide_false]
                repeat first|refine Wr ?_|refine Wb ?_|refine Wc ?_|refine Wd ?_|refine We ?_|refine Wf ?_|refine Wg ?_|refine Wh ?_|refine Wi ?_|refine Wj (by decide) ?_|refine Wa ?_|refine Wk ?_|refine Wl ?_|refine Wm ?_|refine Wn ?_|refine Wo ?_|refine Wp ?_|refine Wq ?_|refine Ww (by simp only[go_sem,e0,e1,e2,e4,e6,e7,e8,e44];done) ?_|((first|refine Ws ?_|refine Wt ?_|refine Wu ?_|refine Wv (by simp only[go_sem,e0,e1,e2,e4,e6,e7,e8,e44];done) ?_);conv=>arg 2;simp only[go_sem,e0,e1,e2,e4,e6,e7,e8,e44])
                refine ⟨_, (by rw [hn2]; exact hlft), seen ++ [i], ess, T, rfl, hlt', ?_, ?_, ?_, ?_, ?_, ?_, ?_, ?_, j1, j2, j3, q4, fun z => ?_, j6, fun l hl => by rw [j7 l hl]; exact k7 l hl⟩
                any_goals (simp only [go_sem, e0, e1, e2, e4, e6, e7, e8, e44, openC, openV, seineV]; done)
                rw [part1, ← q5 z]
                exact ⟨.inl, fun h => h.elim id fun h => by rw [h.1] at h; exact absurd h.2 hu⟩
end Go.Hu.Sn

set_option linter.unusedSimpArgs false
set_option linter.unusedVariables false
namespace Go.Hu.Sn
attribute [local irreducible] wpS wpIs wpI
attribute [local go_sem] Nat.mul_one Nat.one_mul Nat.zero_add Nat.add_zero Nat.zero_mul and_self and_true true_and decide_true decide_false Bool.false_eq_true if_true if_false Int.cast_ofNat_Int Int.zero_le_ofNat Int.le_refl Int.reduceLT Int.reduceLE Int.reduceToNat

variable {s : St} {Q : V → St → Prop}

theorem erase_openV (b : Book) : (openV b).erase = openV b := erase_seineV ..
theorem fits_openV (b : Book) : V.fits (some 8) (openV b) = true := rfl
theorem cells_openV (b : Book) : (openV b).cells = [.int b.lo, .int b.hi, .lst (notesV b.notes) .any, .int (cnt 0 b.notes), .int (cnt 1 b.notes), .int (cnt 2 b.notes), .int (cnt 3 b.notes), .int (cnt 4 b.notes)] := rfl
attribute [go_sem] erase_openV fits_openV cells_openV

theorem c119 (b : Book) (h : Int) (hq : Q (.fn 203 [] [.rptr (openC b) 0, .rptr [.int h] 0]) s) : Call prog (.fn 119 [] []) [openV b, .int h] s Q := by
  refine Call.fn F119 p119 rfl ?_
  simp only [F119, openV, seineV]
  repeat first|refine Wr ?_|refine Wb ?_|refine Wc ?_|refine Wd ?_|refine We ?_|refine Wf ?_|refine Wg ?_|refine Wh ?_|refine Wi ?_|refine Wj (by decide) ?_|refine Wa ?_|refine Wk ?_|refine Wl ?_|refine Wm ?_|refine Wn ?_|refine Wo ?_|refine Wp ?_|refine Wq ?_|refine Ww (by simp only[go_sem];done) ?_|((first|refine Ws ?_|refine Wt ?_|refine Wu ?_|refine Wv (by simp only[go_sem];done) ?_);conv=>arg 2;simp only[go_sem])
  first|refine w_retQ ?_|refine w_endQ ?_
  conv=>arg 1;simp only[go_sem]
  exact w_res (by simp only [go_sem, openC]) hq

theorem c209 (a : Int) (l : List Int) (hl : (l.length : Int) < 9223372036854775808) (hq : Q (.int (minL a l)) s) : Call prog (.fn 209 [] []) [.int a, .lst (intsV l) .any] s Q := by
  refine Call.fn F209 p209 rfl ?_
  simp only [F209]
  repeat first|refine Wr ?_|refine Wb ?_|refine Wc ?_|refine Wd ?_|refine We ?_|refine Wf ?_|refine Wg ?_|refine Wh ?_|refine Wi ?_|refine Wj (by decide) ?_|refine Wa ?_|refine Wk ?_|refine Wl ?_|refine Wm ?_|refine Wn ?_|refine Wo ?_|refine Wp ?_|refine Wq ?_|refine Ww (by simp only[go_sem,intsV_length];done) ?_|((first|refine Ws ?_|refine Wt ?_|refine Wu ?_|refine Wv (by simp only[go_sem,intsV_length];done) ?_);conv=>arg 2;simp only[go_sem,intsV_length])
  refine w_iter (fun n e s' => ∃ (c r : List Int), l = c ++ r ∧ r.length = n ∧ e 0 = .int (minL a c) ∧ e 7 = .lst (intsV l) .any ∧ e 8 = .int l.length ∧ e 9 = .int c.length ∧ s' = s) l.length ?_ ?_
  · refine ⟨[], l, rfl, rfl, ?_, ?_, ?_, ?_, rfl⟩
    any_goals (simp only [go_sem, intsV_length, List.length_nil, Int.natCast_zero, minL, List.foldl_nil]; done)
  · rintro n e s' ⟨c, r, hcr, hrn, e0, e7, e8, e9, rfl⟩
    cases r with
    | nil =>
      have hlt : ¬ ((c.length : Int) < (l.length : Int)) := by rw [hcr]; simp
      repeat first|refine Wr ?_|refine Wb ?_|refine Wc ?_|refine Wd ?_|refine We ?_|refine Wf ?_|refine Wg ?_|refine Wh ?_|refine Wi ?_|refine Wj (by decide) ?_|refine Wa ?_|refine Wk ?_|refine Wl ?_|refine Wm ?_|refine Wn ?_|refine Wo ?_|refine Wp ?_|refine Wq ?_|refine Ww (by simp only[go_sem,e0,e7,e8,e9,hlt];done) ?_|((first|refine Ws ?_|refine Wt ?_|refine Wu ?_|refine Wv (by simp only[go_sem,e0,e7,e8,e9,hlt];done) ?_);conv=>arg 2;simp only[go_sem,e0,e7,e8,e9,hlt])
      first|refine w_retQ ?_|refine w_endQ ?_
      conv=>arg 1;simp only[go_sem]
      have : l = c := by simpa using hcr
      exact w_res (by simp only [go_sem, this]) hq
    | cons x r =>
      have hlt : ((c.length : Int) < (l.length : Int)) := by rw [hcr]; simp; omega
      have hx : (intsV l)[((c.length : Int)).toNat]? = some (.int x) := by rw [hcr]; exact intsV_at
      have hp : 0 ≤ (c.length : Int) := by omega
      have hw : w64 ((c.length : Int) + 1) = (c ++ [x]).length := by rw [w64_id (by omega)]; simp
      repeat first|refine Wr ?_|refine Wb ?_|refine Wc ?_|refine Wd ?_|refine We ?_|refine Wf ?_|refine Wg ?_|refine Wh ?_|refine Wi ?_|refine Wj (by decide) ?_|refine Wa ?_|refine Wk ?_|refine Wl ?_|refine Wm ?_|refine Wn ?_|refine Wo ?_|refine Wp ?_|refine Wq ?_|refine Ww (by simp only[go_sem,e0,e7,e8,e9,hlt,hx,hp,hw];done) ?_|((first|refine Ws ?_|refine Wt ?_|refine Wu ?_|refine Wv (by simp only[go_sem,e0,e7,e8,e9,hlt,hx,hp,hw];done) ?_);conv=>arg 2;simp only[go_sem,e0,e7,e8,e9,hlt,hx,hp,hw])
      refine ⟨r.length, by simp at hrn; omega, c ++ [x], r, by simp [hcr], rfl, ?_, ?_, ?_, ?_, rfl⟩
      any_goals (simp only [go_sem, e0, e7, e8, e9, hw, minL_snoc]; done)

theorem c210 (a : Int) (l : List Int) (hl : (l.length : Int) < 9223372036854775800) (hq : Q (.int (maxL a l)) s) : Call prog (.fn 210 [] []) [.lst (intsV (a :: l)) .any] s Q := by
  refine Call.fn F210 p210 rfl ?_
  simp only [F210]
  have hlen : (((intsV (a :: l)).length : Nat) : Int) = (l.length : Int) + 1 := by simp [intsV]
  have h1 : ¬ ((l.length : Int) + 1 < 1) := by omega
  have h0 : (intsV (a :: l))[0]? = some (.int a) := rfl
  repeat first|refine Wr ?_|refine Wb ?_|refine Wc ?_|refine Wd ?_|refine We ?_|refine Wf ?_|refine Wg ?_|refine Wh ?_|refine Wi ?_|refine Wj (by decide) ?_|refine Wa ?_|refine Wk ?_|refine Wl ?_|refine Wm ?_|refine Wn ?_|refine Wo ?_|refine Wp ?_|refine Wq ?_|refine Ww (by simp only[go_sem,hlen,h1,h0];done) ?_|((first|refine Ws ?_|refine Wt ?_|refine Wu ?_|refine Wv (by simp only[go_sem,hlen,h1,h0];done) ?_);conv=>arg 2;simp only[go_sem,hlen,h1,h0])
  refine w_iter (fun n e s' => ∃ (c r : List Int), l = c ++ r ∧ r.length = n ∧ e 0 = .lst (intsV (a :: l)) .any ∧ e 3 = .int (maxL a c) ∧ e 4 = .int ((c.length : Int) + 1) ∧ s' = s) l.length ?_ ?_
  · refine ⟨[], l, rfl, rfl, ?_, ?_, ?_, rfl⟩
    any_goals (simp only [go_sem, List.length_nil, Int.natCast_zero, maxL, List.foldl_nil, Int.zero_add]; done)
  · rintro n e s' ⟨c, r, hcr, hrn, e0, e3, e4, rfl⟩
    cases r with
    | nil =>
      have hlt : ¬ ((c.length : Int) + 1 < (l.length : Int) + 1) := by rw [hcr]; simp
      repeat first|refine Wr ?_|refine Wb ?_|refine Wc ?_|refine Wd ?_|refine We ?_|refine Wf ?_|refine Wg ?_|refine Wh ?_|refine Wi ?_|refine Wj (by decide) ?_|refine Wa ?_|refine Wk ?_|refine Wl ?_|refine Wm ?_|refine Wn ?_|refine Wo ?_|refine Wp ?_|refine Wq ?_|refine Ww (by simp only[go_sem,e0,e3,e4,hlt,hlen];done) ?_|((first|refine Ws ?_|refine Wt ?_|refine Wu ?_|refine Wv (by simp only[go_sem,e0,e3,e4,hlt,hlen];done) ?_);conv=>arg 2;simp only[go_sem,e0,e3,e4,hlt,hlen])
      first|refine w_retQ ?_|refine w_endQ ?_
      conv=>arg 1;simp only[go_sem]
      have : l = c := by simpa using hcr
      exact w_res (by simp only [go_sem, this]) hq
    | cons x r =>
      have hlt : ((c.length : Int) + 1 < (l.length : Int) + 1) := by rw [hcr]; simp; omega
      have hx : (intsV (a :: l))[((c.length : Int) + 1).toNat]? = some (.int x) := by
        rw [hcr]
        have e1 : (a :: (c ++ x :: r)) = (a :: c) ++ x :: r := rfl
        have e2 : ((c.length : Int) + 1) = ((a :: c).length : Int) := by simp
        rw [e1, e2]
        exact intsV_at
      have hp : 0 ≤ (c.length : Int) + 1 := by omega
      have hw : w64 ((c.length : Int) + 1 + 1) = ((c ++ [x]).length : Int) + 1 := by rw [w64_id (by omega)]; simp
      repeat first|refine Wr ?_|refine Wb ?_|refine Wc ?_|refine Wd ?_|refine We ?_|refine Wf ?_|refine Wg ?_|refine Wh ?_|refine Wi ?_|refine Wj (by decide) ?_|refine Wa ?_|refine Wk ?_|refine Wl ?_|refine Wm ?_|refine Wn ?_|refine Wo ?_|refine Wp ?_|refine Wq ?_|refine Ww (by simp only[go_sem,e0,e3,e4,hlt,hlen,hx,hp,hw];done) ?_|((first|refine Ws ?_|refine Wt ?_|refine Wu ?_|refine Wv (by simp only[go_sem,e0,e3,e4,hlt,hlen,hx,hp,hw];done) ?_);conv=>arg 2;simp only[go_sem,e0,e3,e4,hlt,hlen,hx,hp,hw])
      refine ⟨r.length, by simp at hrn; omega, c ++ [x], r, by simp [hcr], rfl, ?_, ?_, ?_, rfl⟩
      any_goals (simp only [go_sem, e0, e3, e4, hw, maxL_snoc]; done)

theorem c131 (l : List Int) (hne : l ≠ []) (hl : (l.length : Int) < 9223372036854775800) (hq : ∀ lo hi, EndsL l lo hi → Q (.agg [.int lo, .int hi]) s) : Call prog (.fn 131 [] []) [.lst (intsV l) .any] s Q := by
  refine Call.fn F131 p131 rfl ?_
  simp only [F131]
  cases l with
  | nil => exact absurd rfl hne
  | cons a l =>
    have h0 : (intsV (a :: l))[0]? = some (.int a) := rfl
    have hlen : (((intsV (a :: l)).length : Nat) : Int) = (l.length : Int) + 1 := by simp [intsV]
    have hle : (1 : Int) ≤ (l.length : Int) + 1 := by omega
    have htk : (intsV (a :: l)).take ((l.length : Int) + 1).toNat = intsV (a :: l) := by
      apply List.take_of_length_le
      simp [intsV]
    have hdr : (intsV (a :: l)).drop 1 = intsV l := rfl
    have hhd := hd_ints (a :: l)
    simp only [List.length_cons] at hl
    repeat first|refine Wr ?_|refine Wb ?_|refine Wc ?_|refine Wd ?_|refine We ?_|refine Wf ?_|refine Wg ?_|refine Wh ?_|refine Wi ?_|refine Wj (by decide) ?_|refine Wa ?_|refine Wk ?_|refine Wl ?_|refine Wm ?_|refine Wn ?_|refine Wo ?_|refine Wp ?_|refine Wq ?_|refine Ww (by simp only[go_sem,h0,hlen,hle,htk,hdr,hhd,ite_self];done) ?_|((first|refine Ws ?_|refine Wt ?_|refine Wu ?_|refine Wv (by simp only[go_sem,h0,hlen,hle,htk,hdr,hhd,ite_self];done) ?_);conv=>arg 2;simp only[go_sem,h0,hlen,hle,htk,hdr,hhd,ite_self])|(refine Wx (by simp only[go_sem,h0,hlen,hle,htk,hdr,hhd,ite_self];rfl) (by simp only[go_sem,h0,hlen,hle,htk,hdr,hhd,ite_self];rfl) ?_;first|refine c209 a l (by omega) ?_|refine c210 a l (by omega) ?_)
    first|refine w_retQ ?_|refine w_endQ ?_
    conv=>arg 1;simp only[go_sem]
    exact w_res (by simp only [go_sem]) (hq _ _ (ends_minmax a l))

theorem c205 (x : X) (hq : Q (.int x.1) s) : Call prog (.fn 205 [] []) [xV x] s Q := by
  refine Call.fn F205 p205 rfl ?_
  simp only [F205, xV]
  repeat first|refine Wr ?_|refine Wb ?_|refine Wc ?_|refine Wd ?_|refine We ?_|refine Wf ?_|refine Wg ?_|refine Wh ?_|refine Wi ?_|refine Wj (by decide) ?_|refine Wa ?_|refine Wk ?_|refine Wl ?_|refine Wm ?_|refine Wn ?_|refine Wo ?_|refine Wp ?_|refine Wq ?_|refine Ww (by simp only[go_sem];done) ?_|((first|refine Ws ?_|refine Wt ?_|refine Wu ?_|refine Wv (by simp only[go_sem];done) ?_);conv=>arg 2;simp only[go_sem])
  first|refine w_retQ ?_|refine w_endQ ?_
  conv=>arg 1;simp only[go_sem]
  exact w_res (by simp only [go_sem]) hq
theorem c206 (x : X) (hq : Q (.int x.2) s) : Call prog (.fn 206 [] []) [xV x] s Q := by
  refine Call.fn F206 p206 rfl ?_
  simp only [F206, xV]
  repeat first|refine Wr ?_|refine Wb ?_|refine Wc ?_|refine Wd ?_|refine We ?_|refine Wf ?_|refine Wg ?_|refine Wh ?_|refine Wi ?_|refine Wj (by decide) ?_|refine Wa ?_|refine Wk ?_|refine Wl ?_|refine Wm ?_|refine Wn ?_|refine Wo ?_|refine Wp ?_|refine Wq ?_|refine Ww (by simp only[go_sem];done) ?_|((first|refine Ws ?_|refine Wt ?_|refine Wu ?_|refine Wv (by simp only[go_sem];done) ?_);conv=>arg 2;simp only[go_sem])
  first|refine w_retQ ?_|refine w_endQ ?_
  conv=>arg 1;simp only[go_sem]
  exact w_res (by simp only [go_sem]) hq
theorem c123 (hq : Q (.agg [.fn 205 [] []]) s) : Call prog (.fn 123 [] []) [] s Q := by
  refine Call.fn F123 p123 rfl ?_
  simp only [F123]
  repeat first|refine Wr ?_|refine Wb ?_|refine Wc ?_|refine Wd ?_|refine We ?_|refine Wf ?_|refine Wg ?_|refine Wh ?_|refine Wi ?_|refine Wj (by decide) ?_|refine Wa ?_|refine Wk ?_|refine Wl ?_|refine Wm ?_|refine Wn ?_|refine Wo ?_|refine Wp ?_|refine Wq ?_|refine Ww (by simp only[go_sem];done) ?_|((first|refine Ws ?_|refine Wt ?_|refine Wu ?_|refine Wv (by simp only[go_sem];done) ?_);conv=>arg 2;simp only[go_sem])
  first|refine w_retQ ?_|refine w_endQ ?_
  conv=>arg 1;simp only[go_sem]
  exact w_res (by simp only [go_sem]) hq
theorem c126 (hq : Q (.agg [.fn 206 [] []]) s) : Call prog (.fn 126 [] []) [] s Q := by
  refine Call.fn F126 p126 rfl ?_
  simp only [F126]
  repeat first|refine Wr ?_|refine Wb ?_|refine Wc ?_|refine Wd ?_|refine We ?_|refine Wf ?_|refine Wg ?_|refine Wh ?_|refine Wi ?_|refine Wj (by decide) ?_|refine Wa ?_|refine Wk ?_|refine Wl ?_|refine Wm ?_|refine Wn ?_|refine Wo ?_|refine Wp ?_|refine Wq ?_|refine Ww (by simp only[go_sem];done) ?_|((first|refine Ws ?_|refine Wt ?_|refine Wu ?_|refine Wv (by simp only[go_sem];done) ?_);conv=>arg 2;simp only[go_sem])
  first|refine w_retQ ?_|refine w_endQ ?_
  conv=>arg 1;simp only[go_sem]
  exact w_res (by simp only [go_sem]) hq

/-- All small states. -/
def box : List X := (List.range 401).flatMap fun (a : Nat) => (List.range 82).map fun (r : Nat) => ((a : Int), (r : Int))
theorem mem_box {x : X} (h : (0 ≤ x.1 ∧ x.1 ≤ 400) ∧ (0 ≤ x.2 ∧ x.2 ≤ 81)) : x ∈ box := by
  unfold box
  rw [List.mem_flatMap]
  refine ⟨x.1.toNat, by simp; omega, ?_⟩
  rw [List.mem_map]
  refine ⟨x.2.toNat, by simp; omega, ?_⟩
  ext <;> simp <;> omega
theorem box_length : box.length = 32882 := by
  unfold box
  simp only [List.length_flatMap, List.length_map, List.length_range, List.map_const', List.sum_replicate_nat]
theorem atH_small {b : Book} (hb : ok' b) {h : Int} (hh : 0 ≤ h) {x : X} (hx : atH b h x) : (0 ≤ x.1 ∧ x.1 ≤ 400) ∧ (0 ≤ x.2 ∧ x.2 ≤ 81) := by
  obtain ⟨⟨x0, h0, rfl⟩, _⟩ := hx
  have hbl := before_later h b.notes
  have hok : okNotes 0 (before h b.notes) := by
    have := hb.2.2
    rw [← hbl] at this
    exact (okNotes_append.1 this).1
  have hbd := run_bd (begun_bd hb.1) (Int.le_refl 0) hok x0 h0
  have hlen : ((before h b.notes).length : Int) ≤ 9 := by
    have h1 := congrArg List.length hbl
    have h2 := hb.2.1
    simp at h1
    omega
  have := pass_bd (h := h - hourOf 0 (before h b.notes)) hbd (by have := hourOf_before hh (before_all (h := h) (ns := b.notes)); omega)
  omega

/-- What the loop of 'ask' keeps. -/
def AskJ (s0 : St) (lb l : Nat) (L : LoopRec) (A : XS) (f : X → Int) (T : XS) (s : St) : Prop :=
  ∃ (l1 : List X) (c : Cap), l1.Nodup ∧ (∀ x, x ∈ l1 ↔ T x) ∧ (∀ x ∈ l1, A x) ∧ s lb = some (.cells [.lst (intsV (l1.map f)) c]) ∧ Room s c l1.length ∧ s l = some (.loop L) ∧ s0 ≤ s ∧ ∀ t, c = .tok t → s0 t = none
theorem AskJ.stab {s0 : St} {lb l : Nat} {L : LoopRec} {A : XS} {f : X → Int} {T : XS} {s1 s s' : St} (h : AskJ s0 lb l L A f T s) (hs : SameIn s1 s s') (h1 : s1 lb ≠ none) (h2 : s1 l ≠ none) (h0 : ∀ l, s0 l ≠ none → s1 l ≠ none) : AskJ s0 lb l L A f T s' := by
  obtain ⟨l1, c, q1, q2, q3, q4, q5, q6, q7, q8⟩ := h
  refine ⟨l1, c, q1, q2, q3, by rw [hs.1 lb h1]; exact q4, ?_, by rw [hs.1 l h2]; exact q6, fun l' o ho => ?_, q8⟩
  · rcases q5 with q5 | ⟨t, q5, q8⟩
    · exact .inl q5
    · exact .inr ⟨t, q5, hs.2 t _ q8⟩
  · rw [hs.1 l' (h0 l' (by rw [ho]; simp))]
    exact q7 _ _ ho

set_option maxHeartbeats 1000000 in
theorem c122 (b : Book) (hb : ok b) (h : Int) (hh : 0 ≤ h ∧ h ≤ 60) (f : X → Int) (k : Nat) (hp : ∀ {s : St} {Q : V → St → Prop} (x : X), Q (.int (f x)) s → Call prog (.fn k [] []) [xV x] s Q) (hne : ∃ x, atH b h x)
    (hq : ∀ lo hi s', Ends (fun n => ∃ x, atH b h x ∧ f x = n) lo hi → s ≤ s' → Q (.agg [.int lo, .int hi]) s') : Call prog (.fn 122 [] []) [openV b, .int h, .agg [.fn k [] []]] s Q := by
  refine Call.fn F122 p122 rfl ?_
  simp only [F122, openV, seineV]
  repeat first|refine Wr ?_|refine Wb ?_|refine Wc ?_|refine Wd ?_|refine We ?_|refine Wf ?_|refine Wg ?_|refine Wh ?_|refine Wi ?_|refine Wj (by decide) ?_|refine Wa ?_|refine Wk ?_|refine Wl ?_|refine Wm ?_|refine Wn ?_|refine Wo ?_|refine Wp ?_|refine Wq ?_|refine Ww (by simp only[go_sem];done) ?_|((first|refine Ws ?_|refine Wt ?_|refine Wu ?_|refine Wv (by simp only[go_sem];done) ?_);conv=>arg 2;simp only[go_sem])
  refine w_op ?_
  simp only [wpO, go_sem, true_and]
  intro lb hlb
  repeat first|refine Wr ?_|refine Wb ?_|refine Wc ?_|refine Wd ?_|refine We ?_|refine Wf ?_|refine Wg ?_|refine Wh ?_|refine Wi ?_|refine Wj (by decide) ?_|refine Wa ?_|refine Wk ?_|refine Wl ?_|refine Wm ?_|refine Wn ?_|refine Wo ?_|refine Wp ?_|refine Wq ?_|refine Ww (by simp only[go_sem];done) ?_|((first|refine Ws ?_|refine Wt ?_|refine Wu ?_|refine Wv (by simp only[go_sem];done) ?_);conv=>arg 2;simp only[go_sem])|(refine Wx (by simp only[go_sem];rfl) (by simp only[go_sem];rfl) ?_;refine c119 b h ?_)
  refine w_rfunc (by simp only [go_sem]; rfl) fun l hl => ?_
  have hne1 : lb ≠ l := by rintro rfl; rw [St.set_get] at hl; cases hl
  have hl0 : s l = none := by rw [St.get_other hne1.symm] at hl; exact hl
  generalize hL : (LoopRec.mk _ _ _ _ _ _ _) = L
  generalize hs1 : (s.set lb (.cells [.lst [] .exact])).set l (.loop L) = s1
  have a1 : s1 l = some (.loop L) := by rw [← hs1]; exact St.set_get
  have a2 : s1 lb = some (.cells [.lst [] .exact]) := by rw [← hs1, St.get_other hne1]; exact St.set_get
  have a3 : s ≤ s1 := by rw [← hs1]; exact St.le_set (St.le_new hlb) hl0
  refine c203 b hb h hh _ (by simp only [go_sem]) (AskJ s lb l L (atH b h) f) (fun _ => False) ⟨?_, ?_, ?_⟩ ?_ ?_
  · intro T s2 s3 h1 h2
    exact h1.stab h2 (by rw [a2]; simp) (by rw [a1]; simp) fun l' hl' => by
      cases ho : s l' with
      | none => exact absurd ho hl'
      | some o => rw [a3 _ _ ho]; simp
  · rintro T T' s2 ⟨l1, c, q1, q2, q3⟩ h2
    exact ⟨l1, c, q1, fun x => (q2 x).trans (h2 x), q3⟩
  · rintro T s2 x ⟨l1, c, q1, q2, q3, q4, q5, q6, q7, q8⟩ hdom hA hT
    refine Call.yields q6 (by rw [← hL]) (by rw [← hL]; rfl) ?_
    rw [← hL]
    dsimp only
    simp only [xV]
    repeat first|refine Wr ?_|refine Wb ?_|refine Wc ?_|refine Wd ?_|refine We ?_|refine Wf ?_|refine Wg ?_|refine Wh ?_|refine Wi ?_|refine Wj (by decide) ?_|refine Wa ?_|refine Wk ?_|refine Wl ?_|refine Wm ?_|refine Wn ?_|refine Wo ?_|refine Wp ?_|refine Wq ?_|refine Ww (by simp only[go_sem,bind_one,clear_apply];done) ?_|((first|refine Ws ?_|refine Wt ?_|refine Wu ?_|refine Wv (by simp only[go_sem,bind_one,clear_apply];done) ?_);conv=>arg 2;simp only[go_sem,bind_one,clear_apply])
    refine w_assign q6 (by rw [← hL]) ?_
    generalize hs3 : s2.set l (.loop { L with state := .busy }) = s3
    have b1 : s3 lb = some (.cells [.lst (intsV (l1.map f)) c]) := by rw [← hs3, St.get_other hne1]; exact q4
    have b2 : s3 l = some (.loop { L with state := .busy }) := by rw [← hs3]; exact St.set_get
    have b5 : Room s3 c l1.length := by
      rcases q5 with q5 | ⟨t, q5, q8⟩
      · exact .inl q5
      · refine .inr ⟨t, q5, ?_⟩
        rw [← hs3, St.get_other (by rintro rfl; rw [q6] at q8; cases q8)]
        exact q8
    have hx1 : x ∉ l1 := fun hx => hT ((q2 x).1 hx)
    have hlen : l1.length ≤ 32882 := by
      rw [← box_length]
      refine nodup_le q1 fun z hz => mem_box ?_
      exact atH_small hb.ok' hh.1 (q3 z hz)
    repeat first|refine Wr ?_|refine Wb ?_|refine Wc ?_|refine Wd ?_|refine We ?_|refine Wf ?_|refine Wg ?_|refine Wh ?_|refine Wi ?_|refine Wj (by decide) ?_|refine Wa ?_|refine Wk ?_|refine Wl ?_|refine Wm ?_|refine Wn ?_|refine Wo ?_|refine Wp ?_|refine Wq ?_|refine Ww (by simp only[go_sem,bind_one,clear_apply];done) ?_|((first|refine Ws ?_|refine Wt ?_|refine Wu ?_|refine Wv (by simp only[go_sem,bind_one,clear_apply];done) ?_);conv=>arg 2;simp only[go_sem,bind_one,clear_apply])
    refine w_op ?_
    simp only [wpO, go_sem, b1]
    repeat first|refine Wr ?_|refine Wb ?_|refine Wc ?_|refine Wd ?_|refine We ?_|refine Wf ?_|refine Wg ?_|refine Wh ?_|refine Wi ?_|refine Wj (by decide) ?_|refine Wa ?_|refine Wk ?_|refine Wl ?_|refine Wm ?_|refine Wn ?_|refine Wo ?_|refine Wp ?_|refine Wq ?_|refine Ww (by simp only[go_sem,bind_one,clear_apply];done) ?_|((first|refine Ws ?_|refine Wt ?_|refine Wu ?_|refine Wv (by simp only[go_sem,bind_one,clear_apply];done) ?_);conv=>arg 2;simp only[go_sem,bind_one,clear_apply])
    refine w_callq (by simp only [go_sem]; rfl) (by simp only [go_sem]; rfl) ?_
    refine hp x ⟨St.le_refl _, ?_⟩
    have hc1 : (V.int (f x)).cells.length = 1 := rfl
    repeat first|refine Wr ?_|refine Wb ?_|refine Wc ?_|refine Wd ?_|refine We ?_|refine Wf ?_|refine Wg ?_|refine Wh ?_|refine Wi ?_|refine Wj (by decide) ?_|refine Wa ?_|refine Wk ?_|refine Wl ?_|refine Wm ?_|refine Wn ?_|refine Wo ?_|refine Wp ?_|refine Wq ?_|refine Ww (by simp only[go_sem,bind_one,clear_apply];done) ?_|((first|refine Ws ?_|refine Wt ?_|refine Wu ?_|refine Wv (by simp only[go_sem,bind_one,clear_apply];done) ?_);conv=>arg 2;simp only[go_sem,bind_one,clear_apply])
    refine w_append1 (xs := intsV (l1.map f)) (y := .int (f x)) (c := c) rfl (by simp only [go_sem]) (by simp only [go_sem]; rfl) ?_ (hd_ints _) rfl rfl (by simpa [intsV_length] using b5) fun c' s4 hg => ?_
    · simp [intsV, maxLst]; omega
    · have d1 := hg.live (by simpa [intsV_length] using b5) b1 (by simp)
      have d2 := hg.live (by simpa [intsV_length] using b5) b2 (by simp)
      repeat first|refine Wr ?_|refine Wb ?_|refine Wc ?_|refine Wd ?_|refine We ?_|refine Wf ?_|refine Wg ?_|refine Wh ?_|refine Wi ?_|refine Wj (by decide) ?_|refine Wa ?_|refine Wk ?_|refine Wl ?_|refine Wm ?_|refine Wn ?_|refine Wo ?_|refine Wp ?_|refine Wq ?_|refine Ww (by simp only[go_sem,bind_one,clear_apply];done) ?_|((first|refine Ws ?_|refine Wt ?_|refine Wu ?_|refine Wv (by simp only[go_sem,bind_one,clear_apply];done) ?_);conv=>arg 2;simp only[go_sem,bind_one,clear_apply])
      refine w_op ?_
      simp only [wpO, go_sem, d1, Nat.zero_add, Nat.le_refl, if_true]
      repeat first|refine Wr ?_|refine Wb ?_|refine Wc ?_|refine Wd ?_|refine We ?_|refine Wf ?_|refine Wg ?_|refine Wh ?_|refine Wi ?_|refine Wj (by decide) ?_|refine Wa ?_|refine Wk ?_|refine Wl ?_|refine Wm ?_|refine Wn ?_|refine Wo ?_|refine Wp ?_|refine Wq ?_|refine Ww (by simp only[go_sem];done) ?_|((first|refine Ws ?_|refine Wt ?_|refine Wu ?_|refine Wv (by simp only[go_sem];done) ?_);conv=>arg 2;simp only[go_sem])
      refine w_yieldN (L2 := { L with state := .busy }) (by rw [St.get_other hne1.symm]; exact d2) ?_
      have hst0 : ∀ l', s1 l' = none → l' ≠ lb ∧ l' ≠ l := fun l' h0 => ⟨(by rintro rfl; rw [a2] at h0; cases h0), (by rintro rfl; rw [a1] at h0; cases h0)⟩
      refine ⟨⟨fun l' o h0 h1 ho => ?_, fun l' h1 => ?_⟩, .inl ⟨rfl, l1 ++ [x], c', ?_, fun z => ?_, fun z hz => ?_, ?_, ?_, (by rw [St.set_get, ← hL]), ?_, ?_⟩⟩
      · obtain ⟨n1, n2⟩ := hst0 l' h0
        rw [St.get_other n2, St.get_other n1]
        refine hg.live (by simpa [intsV_length] using b5) ?_ ho
        rw [← hs3, St.get_other n2]
        exact h1
      · by_cases n2 : l' = l
        · rw [n2, St.set_get]; simp
        · rw [St.get_other n2]
          by_cases n1 : l' = lb
          · rw [n1, St.set_get]; simp
          · rw [St.get_other n1]
            refine hg.dom l' ?_
            rw [← hs3, St.get_other n2]
            exact h1
      · rw [List.nodup_append]
        exact ⟨q1, by simp, fun a ha b hb => by simp at hb; subst hb; rintro rfl; exact hx1 ha⟩
      · simp only [List.mem_append, List.mem_singleton, q2 z]
      · rcases List.mem_append.1 hz with hz | hz
        · exact q3 z hz
        · simp at hz; subst hz; exact hA
      · rw [St.get_other hne1, St.set_get]
        simp [intsV]
      · obtain ⟨t, ht, ht1, ht2⟩ := hg.room
        refine .inr ⟨t, ht, ?_⟩
        have n1 : t ≠ lb := by rintro rfl; rw [b1] at ht1; cases ht1
        have n2 : t ≠ l := by rintro rfl; rw [b2] at ht1; cases ht1
        rw [St.get_other n2, St.get_other n1, ht2]
        simp [intsV_length]
      · refine St.le_set (St.le_set (fun l' o ho => ?_) hlb) hl0
        have h1 := q7 _ _ ho
        have n2 : l' ≠ l := by rintro rfl; rw [hl0] at ho; cases ho
        refine hg.keep l' o (by rw [← hs3, St.get_other n2]; exact h1) fun t ht => ?_
        rintro rfl
        rw [q8 _ ht] at ho
        cases ho
      · obtain ⟨t, ht, ht1, ht2⟩ := hg.room
        intro t' ht'
        rw [ht] at ht'
        cases ht'
        cases ho : s t with
        | none => rfl
        | some o =>
          have n2 : t ≠ l := by rintro rfl; rw [hl0] at ho; cases ho
          rw [← hs3, St.get_other n2, q7 _ _ ho] at ht1
          cases ht1
  · exact ⟨[], .exact, .nil, by simp, by simp, a2, .inl rfl, a1, a3, by simp⟩
  · rintro v s2 (⟨T, hT, l1, c, q1, q2, q3, q4, q5, q6, q7, q8⟩ | h)
    · refine w_rfN q6 (by rw [← hL]; simp) (by rw [← hL]) ?_
      repeat first|refine Wr ?_|refine Wb ?_|refine Wc ?_|refine Wd ?_|refine We ?_|refine Wf ?_|refine Wg ?_|refine Wh ?_|refine Wi ?_|refine Wj (by decide) ?_|refine Wa ?_|refine Wk ?_|refine Wl ?_|refine Wm ?_|refine Wn ?_|refine Wo ?_|refine Wp ?_|refine Wq ?_|refine Ww (by simp only[go_sem];done) ?_|((first|refine Ws ?_|refine Wt ?_|refine Wu ?_|refine Wv (by simp only[go_sem];done) ?_);conv=>arg 2;simp only[go_sem])
      refine w_op ?_
      have b1 : (s2.set l .dead) lb = some (.cells [.lst (intsV (l1.map f)) c]) := by rw [St.get_other hne1]; exact q4
      simp only [wpO, go_sem, b1]
      have hnl : l1.map f ≠ [] := by
        obtain ⟨x, hx⟩ := hne
        have := (q2 x).2 ((hT x).2 hx)
        intro h0
        simp at h0
        subst h0
        simp at this
      have hlen : l1.length ≤ 32882 := by
        rw [← box_length]
        exact nodup_le q1 fun z hz => mem_box (atH_small hb.ok' hh.1 (q3 z hz))
      have hlen2 : ((l1.map f).length : Int) < 9223372036854775800 := by simp; omega
      repeat first|refine Wr ?_|refine Wb ?_|refine Wc ?_|refine Wd ?_|refine We ?_|refine Wf ?_|refine Wg ?_|refine Wh ?_|refine Wi ?_|refine Wj (by decide) ?_|refine Wa ?_|refine Wk ?_|refine Wl ?_|refine Wm ?_|refine Wn ?_|refine Wo ?_|refine Wp ?_|refine Wq ?_|refine Ww (by simp only[go_sem];done) ?_|((first|refine Ws ?_|refine Wt ?_|refine Wu ?_|refine Wv (by simp only[go_sem];done) ?_);conv=>arg 2;simp only[go_sem])|(refine Wx (by simp only[go_sem];rfl) (by simp only[go_sem];rfl) ?_;refine c131 (l1.map f) hnl hlen2 fun lo hi hends => ?_)
      first|refine w_retQ ?_|refine w_endQ ?_
      conv=>arg 1;simp only[go_sem]
      refine w_res (by simp only [go_sem]) (hq lo hi _ ?_ (St.le_set q7 hl0))
      obtain ⟨⟨h1, h2⟩, h3⟩ := hends
      have mem : ∀ n, n ∈ l1.map f ↔ ∃ x, atH b h x ∧ f x = n := by
        intro n
        rw [List.mem_map]
        exact ⟨fun ⟨x, hx, hn⟩ => ⟨x, (hT x).1 ((q2 x).1 hx), hn⟩, fun ⟨x, hx, hn⟩ => ⟨x, (q2 x).2 ((hT x).2 hx), hn⟩⟩
      exact ⟨⟨(mem lo).1 h1, (mem hi).1 h2⟩, fun n hn => h3 n ((mem n).2 hn)⟩
    · exact h.elim
end Go.Hu.Sn
