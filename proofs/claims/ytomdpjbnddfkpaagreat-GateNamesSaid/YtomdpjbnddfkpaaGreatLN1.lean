/- THE COMPILED FORMS of functions of the program, written by a program of ours; proved to be what the compiler gives. -/
import Derived.Test.YtomdpjbnddfkpaaGreatFa
namespace Go.Proofs.YtomdpjbnddfkpaaGreat.LN
open Go Go.L1
set_option maxRecDepth 100000
def L118 : LFunc := ⟨45, [.tmp 4, .tmp 5, .tmp 6],
 (.seq (.region [⟨(some 4), .move (.const (.int .i64 0)), none, 0, false⟩,
 ⟨(some 5), .move (.const (.int .i64 0)), none, 0, false⟩,
 ⟨(some 6), .move (.const (.bool false)), none, 0, false⟩])
 (.seq (.seq (.region [⟨(some 8), .move (.tmp 1), none, 0, false⟩,
 ⟨(some 9), .bin .eql (.tmp 8) (.const (.int .i64 0)), none, 0, false⟩,
 ⟨(some 10), .move (.tmp 9), none, 0, false⟩,
 ⟨(some 11), .move (.tmp 0), (some (10, false)), 0, false⟩,
 ⟨(some 12), .nilCheck (.tmp 11), (some (10, false)), 0, false⟩,
 ⟨(some 13), .fieldAddr 2 (.tmp 12), (some (10, false)), 0, false⟩,
 ⟨(some 14), .load1 (.tmp 13), (some (10, false)), 0, false⟩,
 ⟨(some 15), .bin .eql (.tmp 14) (.const (.int .u64 0)), (some (10, false)), 0, false⟩,
 ⟨(some 16), .pick (.tmp 10) (.const (.bool true)) (.tmp 15), none, 0, false⟩])
 (.cond (.tmp 16) (.seq (.region [⟨(some 4), .move (.const (.int .i64 0)), none, 0, false⟩,
 ⟨(some 5), .move (.const (.int .i64 0)), none, 0, false⟩,
 ⟨(some 6), .move (.const (.bool false)), none, 0, false⟩])
 .ret)
 .skip))
 (.seq (.seq (.region [⟨(some 17), .move (.tmp 0), none, 0, false⟩,
 ⟨(some 18), .nilCheck (.tmp 17), none, 0, false⟩,
 ⟨(some 19), .fieldAddr 5 (.tmp 18), none, 0, false⟩,
 ⟨(some 20), .load1 (.tmp 19), none, 0, false⟩,
 ⟨(some 21), .move (.tmp 1), none, 0, false⟩,
 ⟨(some 22), .bin .add (.tmp 20) (.tmp 21), none, 0, false⟩,
 ⟨(some 23), .bin .leq (.tmp 22) (.const (.int .i64 16)), none, 0, false⟩])
 (.cond (.tmp 23) (.seq (.draw [⟨(some 24), .move (.tmp 0), none, 0, false⟩,
 ⟨(some 25), .nilCheck (.tmp 24), none, 0, false⟩,
 ⟨(some 26), .fieldAddr 4 (.tmp 25), none, 0, false⟩,
 ⟨(some 27), .load1 (.tmp 26), none, 0, false⟩,
 ⟨(some 28), .move (.tmp 0), none, 0, false⟩,
 ⟨(some 29), .nilCheck (.tmp 28), none, 0, false⟩,
 ⟨(some 30), .fieldAddr 5 (.tmp 29), none, 0, false⟩,
 ⟨(some 31), .load1 (.tmp 30), none, 0, false⟩,
 ⟨(some 4), .move (.tmp 27), none, 0, false⟩,
 ⟨(some 5), .move (.tmp 31), none, 0, false⟩,
 ⟨(some 6), .move (.const (.bool true)), none, 0, false⟩])
 .ret)
 .skip))
 (.seq (.region [⟨(some 32), .move (.tmp 0), none, 0, false⟩,
 ⟨(some 33), .move (.tmp 0), none, 0, false⟩,
 ⟨(some 34), .nilCheck (.tmp 33), none, 0, false⟩,
 ⟨(some 35), .fieldAddr 4 (.tmp 34), none, 0, false⟩,
 ⟨(some 36), .load1 (.tmp 35), none, 0, false⟩,
 ⟨(some 37), .call (.func 163) [(.tmp 32), (.tmp 36)], none, 0, false⟩,
 ⟨(some 7), .move (.tmp 37), none, 0, false⟩])
 (.seq (.draw [⟨(some 38), .move (.tmp 7), none, 0, false⟩,
 ⟨(some 39), .move (.tmp 7), none, 0, false⟩,
 ⟨(some 40), .move (.tmp 0), none, 0, false⟩,
 ⟨(some 41), .nilCheck (.tmp 40), none, 0, false⟩,
 ⟨(some 42), .fieldAddr 3 (.tmp 41), none, 0, false⟩,
 ⟨(some 43), .load1 (.tmp 42), none, 0, false⟩,
 ⟨(some 44), .bin .neq (.tmp 39) (.tmp 43), none, 0, false⟩,
 ⟨(some 4), .move (.tmp 38), none, 0, false⟩,
 ⟨(some 5), .move (.const (.int .i64 0)), none, 0, false⟩,
 ⟨(some 6), .move (.tmp 44), none, 0, false⟩])
 .ret)))))⟩

def L119 : LFunc := ⟨21, [.tmp 4, .tmp 5],
 (.seq (.region [⟨(some 4), .move (.const (.int .i64 0)), none, 0, false⟩,
 ⟨(some 5), .move (.const (.int .i64 0)), none, 0, false⟩])
 (.seq (.seq (.region [⟨(some 9), .move (.tmp 0), none, 0, false⟩,
 ⟨(some 10), .move (.tmp 1), none, 0, false⟩,
 ⟨(some 11), .buildSlice 1 1 3 [(.int .i64 0)] [(0, 1, (.tmp 10))], none, 0, false⟩,
 ⟨(some 12), .call (.func 180) [(.tmp 9), (.tmp 11)], none, 0, false⟩,
 ⟨(some 8), .move (.tmp 12), none, 0, false⟩,
 ⟨(some 13), .extract (.tmp 8) 0, none, 0, false⟩,
 ⟨(some 14), .extract (.tmp 8) 1, none, 0, false⟩,
 ⟨(some 6), .move (.tmp 13), none, 0, false⟩,
 ⟨(some 7), .move (.tmp 14), none, 0, false⟩])
 (.seq (.region [⟨(some 15), .move (.tmp 7), none, 0, false⟩,
 ⟨(some 16), .bin .neq (.tmp 15) (.const (.int .i64 0)), none, 0, false⟩])
 (.cond (.tmp 16) (.seq (.region [⟨(some 17), .move (.tmp 7), none, 0, false⟩,
 ⟨(some 4), .move (.const (.int .i64 0)), none, 0, false⟩,
 ⟨(some 5), .move (.tmp 17), none, 0, false⟩])
 .ret)
 .skip)))
 (.seq (.region [⟨(some 18), .move (.tmp 1), none, 0, false⟩,
 ⟨(some 19), .bin .mul (.tmp 18) (.const (.int .i64 16)), none, 0, false⟩,
 ⟨(some 20), .bin .add (.const (.int .i64 32)) (.tmp 19), none, 0, false⟩,
 ⟨(some 4), .move (.tmp 20), none, 0, false⟩,
 ⟨(some 5), .move (.const (.int .i64 0)), none, 0, false⟩])
 .ret)))⟩

def L120 : LFunc := ⟨29, [.tmp 6],
 (.seq (.region [⟨(some 5), .box 64 214 (.tmp 2), none, 0, false⟩,
 ⟨(some 6), .move (.const (.int .i64 0)), none, 0, false⟩])
 (.seq (.seq (.region [⟨(some 8), .move (.tmp 0), none, 0, false⟩,
 ⟨(some 9), .move (.tmp 1), none, 0, false⟩,
 ⟨(some 10), .call (.func 188) [(.tmp 8), (.tmp 9)], none, 0, false⟩,
 ⟨(some 11), .un .not (.tmp 10), none, 0, false⟩])
 (.cond (.tmp 11) (.seq (.region [⟨(some 6), .move (.const (.int .i64 71)), none, 0, false⟩])
 .ret)
 .skip))
 (.seq (.region [⟨(some 12), .move (.tmp 0), none, 0, false⟩,
 ⟨(some 13), .call (.func 189) [(.tmp 12)], none, 0, false⟩,
 ⟨(some 7), .move (.tmp 13), none, 0, false⟩])
 (.seq (.seq (.region [⟨(some 14), .move (.tmp 7), none, 0, false⟩,
 ⟨(some 15), .bin .eql (.tmp 14) (.const (.int .i64 0)), none, 0, false⟩])
 (.cond (.tmp 15) (.draw [⟨(some 17), .move (.tmp 0), none, 0, false⟩,
 ⟨(some 18), .nilCheck (.tmp 17), none, 0, false⟩,
 ⟨(some 19), .fieldAddr 1 (.tmp 18), none, 0, false⟩,
 ⟨(some 20), .load1 (.tmp 19), none, 0, false⟩,
 ⟨(some 21), .move (.tmp 1), none, 0, false⟩,
 ⟨(some 22), .loadN 64 (.tmp 5), none, 0, false⟩,
 ⟨(some 23), .build [(.int .i64 0), (.int .u8 0), (.int .u8 0), (.int .u8 0), (.int .u8 0), (.int .u8 0), (.int .u8 0), (.int .u8 0), (.int .u8 0), (.int .u8 0), (.int .u8 0), (.int .u8 0), (.int .u8 0), (.int .u8 0), (.int .u8 0), (.int .u8 0), (.int .u8 0), (.int .u8 0), (.int .u8 0), (.int .u8 0), (.int .u8 0), (.int .u8 0), (.int .u8 0), (.int .u8 0), (.int .u8 0), (.int .u8 0), (.int .u8 0), (.int .u8 0), (.int .u8 0), (.int .u8 0), (.int .u8 0), (.int .u8 0), (.int .u8 0), (.int .u8 0), (.int .u8 0), (.int .u8 0), (.int .u8 0), (.int .u8 0), (.int .u8 0), (.int .u8 0), (.int .u8 0), (.int .u8 0), (.int .u8 0), (.int .u8 0), (.int .u8 0), (.int .u8 0), (.int .u8 0), (.int .u8 0), (.int .u8 0), (.int .u8 0), (.int .u8 0), (.int .u8 0), (.int .u8 0), (.int .u8 0), (.int .u8 0), (.int .u8 0), (.int .u8 0), (.int .u8 0), (.int .u8 0), (.int .u8 0), (.int .u8 0), (.int .u8 0), (.int .u8 0), (.int .u8 0), (.int .u8 0)] [(0, 1, (.tmp 21)), (1, 64, (.tmp 22))], none, 0, false⟩,
 ⟨(some 24), .buildSlice 1 65 216 [(.int .i64 0), (.int .u8 0), (.int .u8 0), (.int .u8 0), (.int .u8 0), (.int .u8 0), (.int .u8 0), (.int .u8 0), (.int .u8 0), (.int .u8 0), (.int .u8 0), (.int .u8 0), (.int .u8 0), (.int .u8 0), (.int .u8 0), (.int .u8 0), (.int .u8 0), (.int .u8 0), (.int .u8 0), (.int .u8 0), (.int .u8 0), (.int .u8 0), (.int .u8 0), (.int .u8 0), (.int .u8 0), (.int .u8 0), (.int .u8 0), (.int .u8 0), (.int .u8 0), (.int .u8 0), (.int .u8 0), (.int .u8 0), (.int .u8 0), (.int .u8 0), (.int .u8 0), (.int .u8 0), (.int .u8 0), (.int .u8 0), (.int .u8 0), (.int .u8 0), (.int .u8 0), (.int .u8 0), (.int .u8 0), (.int .u8 0), (.int .u8 0), (.int .u8 0), (.int .u8 0), (.int .u8 0), (.int .u8 0), (.int .u8 0), (.int .u8 0), (.int .u8 0), (.int .u8 0), (.int .u8 0), (.int .u8 0), (.int .u8 0), (.int .u8 0), (.int .u8 0), (.int .u8 0), (.int .u8 0), (.int .u8 0), (.int .u8 0), (.int .u8 0), (.int .u8 0), (.int .u8 0)] [(0, 65, (.tmp 23))], none, 0, false⟩,
 ⟨(some 25), .append 65 72 216 [(.int .i64 0), (.int .u8 0), (.int .u8 0), (.int .u8 0), (.int .u8 0), (.int .u8 0), (.int .u8 0), (.int .u8 0), (.int .u8 0), (.int .u8 0), (.int .u8 0), (.int .u8 0), (.int .u8 0), (.int .u8 0), (.int .u8 0), (.int .u8 0), (.int .u8 0), (.int .u8 0), (.int .u8 0), (.int .u8 0), (.int .u8 0), (.int .u8 0), (.int .u8 0), (.int .u8 0), (.int .u8 0), (.int .u8 0), (.int .u8 0), (.int .u8 0), (.int .u8 0), (.int .u8 0), (.int .u8 0), (.int .u8 0), (.int .u8 0), (.int .u8 0), (.int .u8 0), (.int .u8 0), (.int .u8 0), (.int .u8 0), (.int .u8 0), (.int .u8 0), (.int .u8 0), (.int .u8 0), (.int .u8 0), (.int .u8 0), (.int .u8 0), (.int .u8 0), (.int .u8 0), (.int .u8 0), (.int .u8 0), (.int .u8 0), (.int .u8 0), (.int .u8 0), (.int .u8 0), (.int .u8 0), (.int .u8 0), (.int .u8 0), (.int .u8 0), (.int .u8 0), (.int .u8 0), (.int .u8 0), (.int .u8 0), (.int .u8 0), (.int .u8 0), (.int .u8 0), (.int .u8 0)] false (.tmp 20) (.tmp 24), none, 0, true⟩,
 ⟨(some 16), .move (.tmp 0), none, 0, false⟩,
 ⟨(some 26), .nilCheck (.tmp 16), none, 1, false⟩,
 ⟨(some 27), .fieldAddr 1 (.tmp 26), none, 1, false⟩,
 ⟨none, .store 1 (.tmp 27) (.tmp 25), none, 1, true⟩])
 .skip))
 (.seq (.region [⟨(some 28), .move (.tmp 7), none, 0, false⟩,
 ⟨(some 6), .move (.tmp 28), none, 0, false⟩])
 .ret)))))⟩

def L121 : LFunc := ⟨11, [.tmp 2],
 (.seq (.region [⟨(some 2), .move (.const (.int .i64 0)), none, 0, false⟩])
 (.seq (.region [⟨(some 4), .move (.tmp 0), none, 0, false⟩,
 ⟨(some 5), .call (.func 189) [(.tmp 4)], none, 0, false⟩,
 ⟨(some 3), .move (.tmp 5), none, 0, false⟩])
 (.seq (.seq (.region [⟨(some 6), .move (.tmp 3), none, 0, false⟩,
 ⟨(some 7), .bin .eql (.tmp 6) (.const (.int .i64 0)), none, 0, false⟩])
 (.cond (.tmp 7) (.region [⟨(some 8), .move (.tmp 0), none, 0, false⟩,
 ⟨(some 9), .call (.func 61) [(.tmp 8), (.func 190)], none, 0, false⟩])
 .skip))
 (.seq (.region [⟨(some 10), .move (.tmp 3), none, 0, false⟩,
 ⟨(some 2), .move (.tmp 10), none, 0, false⟩])
 .ret))))⟩

def L122 : LFunc := ⟨21, [.tmp 4],
 (.seq (.region [⟨(some 3), .box 14 226 (.tmp 1), none, 0, false⟩,
 ⟨(some 4), .move (.const (.int .i64 0)), none, 0, false⟩])
 (.seq (.seq (.region [⟨(some 5), .move (.tmp 0), none, 0, false⟩,
 ⟨(some 6), .nilCheck (.tmp 5), none, 0, false⟩,
 ⟨(some 7), .fieldAddr 0 (.tmp 6), none, 0, false⟩,
 ⟨(some 8), .load1 (.tmp 7), none, 0, false⟩,
 ⟨(some 9), .len false (.tmp 8), none, 0, false⟩,
 ⟨(some 10), .bin .geq (.tmp 9) (.const (.int .i64 64)), none, 0, false⟩])
 (.cond (.tmp 10) (.seq (.region [⟨(some 4), .move (.const (.int .i64 161)), none, 0, false⟩])
 .ret)
 .skip))
 (.seq (.draw [⟨(some 12), .move (.tmp 0), none, 0, false⟩,
 ⟨(some 13), .nilCheck (.tmp 12), none, 0, false⟩,
 ⟨(some 14), .fieldAddr 0 (.tmp 13), none, 0, false⟩,
 ⟨(some 15), .load1 (.tmp 14), none, 0, false⟩,
 ⟨(some 16), .loadN 14 (.tmp 3), none, 0, false⟩,
 ⟨(some 17), .buildSlice 1 14 226 [(.int .i64 0), (.int .u8 0), (.int .u8 0), (.int .u8 0), (.int .u8 0), (.int .i64 0), (.int .u64 0), (.int .u64 0), (.int .u64 0), (.int .u64 0), (.int .u64 0), (.int .u64 0), (.int .u64 0), (.bool false)] [(0, 14, (.tmp 16))], none, 0, false⟩,
 ⟨(some 18), .append 14 88 226 [(.int .i64 0), (.int .u8 0), (.int .u8 0), (.int .u8 0), (.int .u8 0), (.int .i64 0), (.int .u64 0), (.int .u64 0), (.int .u64 0), (.int .u64 0), (.int .u64 0), (.int .u64 0), (.int .u64 0), (.bool false)] false (.tmp 15) (.tmp 17), none, 0, true⟩,
 ⟨(some 11), .move (.tmp 0), none, 0, false⟩,
 ⟨(some 19), .nilCheck (.tmp 11), none, 1, false⟩,
 ⟨(some 20), .fieldAddr 0 (.tmp 19), none, 1, false⟩,
 ⟨none, .store 1 (.tmp 20) (.tmp 18), none, 1, true⟩])
 (.seq (.region [⟨(some 4), .move (.const (.int .i64 0)), none, 0, false⟩])
 .ret))))⟩

def L123 : LFunc := ⟨4, [.tmp 2],
 (.seq (.region [⟨(some 1), .box 1 227 (.tmp 0), none, 0, false⟩,
 ⟨(some 2), .move (.const .nilFunc), none, 0, false⟩])
 (.seq (.region [⟨(some 3), .mkFunc (.func 191) [] [(.tmp 1)], none, 0, false⟩,
 ⟨(some 2), .move (.tmp 3), none, 0, false⟩])
 .ret))⟩

def L124 : LFunc := ⟨19, [.cellN 4 14, .tmp 5],
 (.seq (.region [⟨(some 2), .box 2 85 (.tmp 0), none, 0, false⟩,
 ⟨(some 4), .alloc [(.int .i64 0), (.int .u8 0), (.int .u8 0), (.int .u8 0), (.int .u8 0), (.int .i64 0), (.int .u64 0), (.int .u64 0), (.int .u64 0), (.int .u64 0), (.int .u64 0), (.int .u64 0), (.int .u64 0), (.int .u64 0)] 121, none, 0, false⟩,
 ⟨(some 5), .move (.const (.bool false)), none, 0, false⟩])
 (.seq (.region [⟨(some 7), .fieldAddr 1 (.tmp 2), none, 0, false⟩,
 ⟨(some 8), .load1 (.tmp 7), none, 0, false⟩,
 ⟨(some 9), .move (.tmp 1), none, 0, false⟩,
 ⟨(some 10), .call (.func 175) [(.tmp 8), (.tmp 9)], none, 0, false⟩,
 ⟨(some 6), .move (.tmp 10), none, 0, false⟩])
 (.seq (.seq (.region [⟨(some 11), .move (.tmp 6), none, 0, false⟩,
 ⟨(some 12), .bin .lss (.tmp 11) (.const (.int .i64 0)), none, 0, false⟩])
 (.cond (.tmp 12) (.seq (.region [⟨(some 13), .build [(.int .i64 0), (.int .u8 0), (.int .u8 0), (.int .u8 0), (.int .u8 0), (.int .i64 0), (.int .u64 0), (.int .u64 0), (.int .u64 0), (.int .u64 0), (.int .u64 0), (.int .u64 0), (.int .u64 0), (.int .u64 0)] [], none, 0, false⟩,
 ⟨none, .store 14 (.tmp 4) (.tmp 13), none, 0, false⟩,
 ⟨(some 5), .move (.const (.bool false)), none, 0, false⟩])
 .ret)
 .skip))
 (.seq (.region [⟨(some 14), .fieldAddr 1 (.tmp 2), none, 0, false⟩,
 ⟨(some 15), .load1 (.tmp 14), none, 0, false⟩,
 ⟨(some 16), .move (.tmp 6), none, 0, false⟩,
 ⟨(some 17), .indexAddr 14 (.tmp 15) (.tmp 16), none, 0, false⟩,
 ⟨(some 18), .loadN 14 (.tmp 17), none, 0, false⟩,
 ⟨none, .store 14 (.tmp 4) (.tmp 18), none, 0, false⟩,
 ⟨(some 5), .move (.const (.bool true)), none, 0, false⟩])
 .ret))))⟩

def L125 : LFunc := ⟨46, [.tmp 2],
 (.seq (.region [⟨(some 1), .box 13 42 (.tmp 0), none, 0, false⟩,
 ⟨(some 2), .move (.const (.bool false)), none, 0, false⟩])
 (.seq (.region [⟨(some 3), .move (.func 192), none, 0, false⟩])
 (.seq (.region [⟨(some 4), .move (.func 193), none, 0, false⟩])
 (.seq (.region [⟨(some 6), .fieldAddr 11 (.tmp 1), none, 0, false⟩,
 ⟨(some 7), .load1 (.tmp 6), none, 0, false⟩,
 ⟨(some 8), .fieldAddr 12 (.tmp 1), none, 0, false⟩,
 ⟨(some 9), .load1 (.tmp 8), none, 0, false⟩,
 ⟨(some 10), .buildSlice 2 1 26 [(.int .u64 0), (.int .u64 0)] [(0, 1, (.tmp 7)), (1, 1, (.tmp 9))], none, 0, false⟩,
 ⟨(some 5), .move (.tmp 10), none, 0, false⟩])
 (.seq (.block 0 (.seq (.region [⟨(some 12), .fieldAddr 0 (.tmp 1), none, 0, false⟩,
 ⟨(some 13), .load1 (.tmp 12), none, 0, false⟩,
 ⟨(some 14), .bin .lss (.tmp 13) (.const (.int .i64 1)), none, 0, false⟩,
 ⟨(some 15), .move (.tmp 14), none, 0, false⟩,
 ⟨(some 16), .fieldAddr 0 (.tmp 1), (some (15, false)), 0, false⟩,
 ⟨(some 17), .load1 (.tmp 16), (some (15, false)), 0, false⟩,
 ⟨(some 18), .bin .gtr (.tmp 17) (.const (.int .i64 255)), (some (15, false)), 0, false⟩,
 ⟨(some 19), .pick (.tmp 15) (.const (.bool true)) (.tmp 18), none, 0, false⟩,
 ⟨(some 20), .move (.tmp 19), none, 0, false⟩,
 ⟨(some 21), .fieldAddr 1 (.tmp 1), (some (20, false)), 0, false⟩,
 ⟨(some 22), .loadN 5 (.tmp 21), (some (20, false)), 0, false⟩,
 ⟨(some 23), .call (.func 158) [(.tmp 22)], (some (20, false)), 0, false⟩,
 ⟨(some 24), .un .not (.tmp 23), (some (20, false)), 0, false⟩,
 ⟨(some 25), .pick (.tmp 20) (.const (.bool true)) (.tmp 24), none, 0, false⟩,
 ⟨(some 11), .move (.tmp 25), none, 0, false⟩])
 (.cond (.tmp 11) (.seq (.region [⟨(some 2), .move (.const (.bool false)), none, 0, false⟩])
 .ret)
 (.seq (.region [⟨(some 27), .move (.tmp 5), none, 0, false⟩,
 ⟨(some 28), .fieldAddr 6 (.tmp 1), none, 0, false⟩,
 ⟨(some 29), .load1 (.tmp 28), none, 0, false⟩,
 ⟨(some 30), .fieldAddr 7 (.tmp 1), none, 0, false⟩,
 ⟨(some 31), .load1 (.tmp 30), none, 0, false⟩,
 ⟨(some 32), .fieldAddr 8 (.tmp 1), none, 0, false⟩,
 ⟨(some 33), .load1 (.tmp 32), none, 0, false⟩,
 ⟨(some 34), .fieldAddr 9 (.tmp 1), none, 0, false⟩,
 ⟨(some 35), .load1 (.tmp 34), none, 0, false⟩,
 ⟨(some 36), .fieldAddr 10 (.tmp 1), none, 0, false⟩,
 ⟨(some 37), .load1 (.tmp 36), none, 0, false⟩,
 ⟨(some 38), .buildSlice 5 1 26 [(.int .u64 0), (.int .u64 0), (.int .u64 0), (.int .u64 0), (.int .u64 0)] [(0, 1, (.tmp 29)), (1, 1, (.tmp 31)), (2, 1, (.tmp 33)), (3, 1, (.tmp 35)), (4, 1, (.tmp 37))], none, 0, false⟩,
 ⟨(some 39), .append 1 8 26 [(.int .u64 0)] false (.tmp 27) (.tmp 38), none, 0, false⟩,
 ⟨(some 40), .move (.tmp 3), none, 0, false⟩,
 ⟨(some 41), .call (.func 194) [(.tmp 39), (.tmp 40)], none, 0, false⟩,
 ⟨(some 26), .move (.tmp 41), none, 0, false⟩])
 (.cond (.tmp 26) (.seq (.region [⟨(some 2), .move (.const (.bool false)), none, 0, false⟩])
 .ret)
 .skip)))))
 (.seq (.region [⟨(some 42), .move (.tmp 5), none, 0, false⟩,
 ⟨(some 43), .move (.tmp 4), none, 0, false⟩,
 ⟨(some 44), .call (.func 194) [(.tmp 42), (.tmp 43)], none, 0, false⟩,
 ⟨(some 45), .un .not (.tmp 44), none, 0, false⟩,
 ⟨(some 2), .move (.tmp 45), none, 0, false⟩])
 .ret))))))⟩

def L126 : LFunc := ⟨31, [.tmp 4],
 (.seq (.region [⟨(some 3), .box 1 3 (.tmp 1), none, 0, false⟩,
 ⟨(some 4), .move (.const (.bool false)), none, 0, false⟩])
 (.seq (.draw [⟨(some 8), .move (.tmp 0), none, 0, false⟩,
 ⟨(some 9), .nilCheck (.tmp 8), none, 0, false⟩,
 ⟨(some 10), .fieldAddr 0 (.tmp 9), none, 0, false⟩,
 ⟨(some 11), .load1 (.tmp 10), none, 0, false⟩,
 ⟨(some 12), .load1 (.tmp 3), none, 0, false⟩,
 ⟨(some 13), .lookup (.prim .n) (.pointer none) true (.tmp 11) (.tmp 12), none, 0, false⟩,
 ⟨(some 7), .move (.tmp 13), none, 0, false⟩,
 ⟨(some 14), .extract (.tmp 7) 0, none, 0, false⟩,
 ⟨(some 15), .extract (.tmp 7) 1, none, 0, false⟩,
 ⟨(some 5), .move (.tmp 14), none, 0, false⟩,
 ⟨(some 6), .move (.tmp 15), none, 0, false⟩])
 (.seq (.draw [⟨(some 16), .move (.tmp 0), none, 0, false⟩,
 ⟨(some 17), .nilCheck (.tmp 16), none, 0, false⟩,
 ⟨(some 18), .fieldAddr 0 (.tmp 17), none, 0, false⟩,
 ⟨(some 19), .load1 (.tmp 18), none, 0, false⟩,
 ⟨(some 20), .load1 (.tmp 3), none, 0, false⟩,
 ⟨none, .delete (.prim .n) (.tmp 19) (.tmp 20), none, 0, true⟩])
 (.seq (.region [⟨(some 21), .move (.tmp 0), none, 0, false⟩,
 ⟨(some 22), .move (.tmp 0), none, 0, false⟩,
 ⟨(some 23), .nilCheck (.tmp 22), none, 0, false⟩,
 ⟨(some 24), .fieldAddr 1 (.tmp 23), none, 0, false⟩,
 ⟨(some 25), .load1 (.tmp 24), none, 0, false⟩,
 ⟨(some 26), .mkFunc (.func 196) [] [(.tmp 3)], none, 0, false⟩,
 ⟨(some 27), .call (.func 195) [(.tmp 25), (.tmp 26)], none, 0, false⟩,
 ⟨(some 28), .nilCheck (.tmp 21), none, 0, false⟩,
 ⟨(some 29), .fieldAddr 1 (.tmp 28), none, 0, false⟩,
 ⟨none, .store 1 (.tmp 29) (.tmp 27), none, 0, false⟩])
 (.seq (.region [⟨(some 30), .move (.tmp 6), none, 0, false⟩,
 ⟨(some 4), .move (.tmp 30), none, 0, false⟩])
 .ret)))))⟩

def L127 : LFunc := ⟨22, [.tmp 4],
 (.seq (.region [⟨(some 3), .box 5 40 (.tmp 1), none, 0, false⟩,
 ⟨(some 4), .move (.const (.bool false)), none, 0, false⟩])
 (.seq (.draw [⟨(some 8), .move (.tmp 0), none, 0, false⟩,
 ⟨(some 9), .nilCheck (.tmp 8), none, 0, false⟩,
 ⟨(some 10), .fieldAddr 0 (.tmp 9), none, 0, false⟩,
 ⟨(some 11), .load1 (.tmp 10), none, 0, false⟩,
 ⟨(some 12), .loadN 5 (.tmp 3), none, 0, false⟩,
 ⟨(some 13), .lookup (.agg 5 [(0, .n), (1, .n), (2, .n), (3, .n), (4, .n)]) (.int .i64 0) true (.tmp 11) (.tmp 12), none, 0, false⟩,
 ⟨(some 7), .move (.tmp 13), none, 0, false⟩,
 ⟨(some 14), .extract (.tmp 7) 0, none, 0, false⟩,
 ⟨(some 15), .extract (.tmp 7) 1, none, 0, false⟩,
 ⟨(some 5), .move (.tmp 14), none, 0, false⟩,
 ⟨(some 6), .move (.tmp 15), none, 0, false⟩])
 (.seq (.draw [⟨(some 16), .move (.tmp 0), none, 0, false⟩,
 ⟨(some 17), .nilCheck (.tmp 16), none, 0, false⟩,
 ⟨(some 18), .fieldAddr 0 (.tmp 17), none, 0, false⟩,
 ⟨(some 19), .load1 (.tmp 18), none, 0, false⟩,
 ⟨(some 20), .loadN 5 (.tmp 3), none, 0, false⟩,
 ⟨none, .delete (.agg 5 [(0, .n), (1, .n), (2, .n), (3, .n), (4, .n)]) (.tmp 19) (.tmp 20), none, 0, true⟩])
 (.seq (.region [⟨(some 21), .move (.tmp 6), none, 0, false⟩,
 ⟨(some 4), .move (.tmp 21), none, 0, false⟩])
 .ret))))⟩

def L128 : LFunc := ⟨13, [],
 (.region [⟨(some 6), .move (.tmp 0), none, 0, false⟩,
 ⟨(some 7), .move (.tmp 1), none, 0, false⟩,
 ⟨(some 8), .move (.tmp 2), none, 0, false⟩,
 ⟨(some 9), .call (.func 98) [(.tmp 7), (.tmp 8)], none, 0, false⟩,
 ⟨(some 10), .nilCheck (.tmp 9), none, 0, false⟩,
 ⟨(some 11), .loadN 3 (.tmp 10), none, 0, false⟩,
 ⟨(some 12), .nilCheck (.tmp 6), none, 0, false⟩,
 ⟨none, .store 3 (.tmp 12) (.tmp 11), none, 0, false⟩])⟩

def L129 : LFunc := ⟨23, [.tmp 6],
 (.seq (.region [⟨(some 6), .move (.const (.int .i64 0)), none, 0, false⟩])
 (.seq (.region [⟨(some 8), .move (.tmp 1), none, 0, false⟩,
 ⟨(some 9), .move (.tmp 2), none, 0, false⟩,
 ⟨(some 10), .buildSlice 2 1 26 [(.int .u64 0), (.int .u64 0)] [(0, 1, (.tmp 8)), (1, 1, (.tmp 9))], none, 0, false⟩,
 ⟨(some 11), .call (.func 157) [(.tmp 10)], none, 0, false⟩,
 ⟨(some 7), .move (.tmp 11), none, 0, false⟩])
 (.seq (.seq (.region [⟨(some 12), .move (.tmp 7), none, 0, false⟩,
 ⟨(some 13), .bin .eql (.tmp 12) (.const (.int .i64 0)), none, 0, false⟩])
 (.cond (.tmp 13) (.region [⟨(some 14), .move (.tmp 0), none, 0, false⟩,
 ⟨(some 15), .move (.tmp 0), none, 0, false⟩,
 ⟨(some 16), .move (.tmp 1), none, 0, false⟩,
 ⟨(some 17), .move (.tmp 2), none, 0, false⟩,
 ⟨(some 18), .nilCheck (.tmp 14), none, 0, false⟩,
 ⟨(some 19), .fieldAddr 0 (.tmp 18), none, 0, false⟩,
 ⟨none, .store 1 (.tmp 19) (.tmp 16), none, 0, false⟩,
 ⟨(some 20), .nilCheck (.tmp 15), none, 0, false⟩,
 ⟨(some 21), .fieldAddr 1 (.tmp 20), none, 0, false⟩,
 ⟨none, .store 1 (.tmp 21) (.tmp 17), none, 0, false⟩])
 .skip))
 (.seq (.region [⟨(some 22), .move (.tmp 7), none, 0, false⟩,
 ⟨(some 6), .move (.tmp 22), none, 0, false⟩])
 .ret))))⟩

def L130 : LFunc := ⟨43, [.tmp 2],
 (.seq (.region [⟨(some 2), .move (.const (.int .i64 0)), none, 0, false⟩])
 (.seq (.seq (.region [⟨(some 4), .move (.tmp 0), none, 0, false⟩,
 ⟨(some 5), .len false (.tmp 4), none, 0, false⟩,
 ⟨(some 6), .bin .lss (.tmp 5) (.const (.int .i64 20)), none, 0, false⟩])
 (.cond (.tmp 6) (.seq (.region [⟨(some 2), .move (.const (.int .i64 51)), none, 0, false⟩])
 .ret)
 .skip))
 (.seq (.seq (.region [⟨(some 7), .move (.tmp 0), none, 0, false⟩,
 ⟨(some 8), .indexAddr 1 (.tmp 7) (.const (.int .i64 0)), none, 0, false⟩,
 ⟨(some 9), .load1 (.tmp 8), none, 0, false⟩,
 ⟨(some 10), .bin .shr (.tmp 9) (.const (.int .u64 4)), none, 0, false⟩,
 ⟨(some 11), .bin .neq (.tmp 10) (.const (.int .u8 4)), none, 0, false⟩])
 (.cond (.tmp 11) (.seq (.region [⟨(some 2), .move (.const (.int .i64 52)), none, 0, false⟩])
 .ret)
 .skip))
 (.seq (.region [⟨(some 12), .move (.tmp 0), none, 0, false⟩,
 ⟨(some 13), .indexAddr 1 (.tmp 12) (.const (.int .i64 0)), none, 0, false⟩,
 ⟨(some 14), .load1 (.tmp 13), none, 0, false⟩,
 ⟨(some 15), .bin .and (.tmp 14) (.const (.int .u8 15)), none, 0, false⟩,
 ⟨(some 16), .conv (.int .i64) (.tmp 15), none, 0, false⟩,
 ⟨(some 17), .bin .mul (.tmp 16) (.const (.int .i64 4)), none, 0, false⟩,
 ⟨(some 3), .move (.tmp 17), none, 0, false⟩])
 (.seq (.seq (.region [⟨(some 18), .move (.tmp 3), none, 0, false⟩,
 ⟨(some 19), .bin .lss (.tmp 18) (.const (.int .i64 20)), none, 0, false⟩,
 ⟨(some 20), .move (.tmp 19), none, 0, false⟩,
 ⟨(some 21), .move (.tmp 3), (some (20, false)), 0, false⟩,
 ⟨(some 22), .move (.tmp 0), (some (20, false)), 0, false⟩,
 ⟨(some 23), .len false (.tmp 22), (some (20, false)), 0, false⟩,
 ⟨(some 24), .bin .gtr (.tmp 21) (.tmp 23), (some (20, false)), 0, false⟩,
 ⟨(some 25), .pick (.tmp 20) (.const (.bool true)) (.tmp 24), none, 0, false⟩,
 ⟨(some 26), .move (.tmp 25), none, 0, false⟩,
 ⟨(some 27), .move (.tmp 0), (some (26, false)), 0, false⟩,
 ⟨(some 28), .call (.func 131) [(.tmp 27), (.const (.int .i64 2))], (some (26, false)), 0, false⟩,
 ⟨(some 29), .move (.tmp 0), (some (26, false)), 0, false⟩,
 ⟨(some 30), .len false (.tmp 29), (some (26, false)), 0, false⟩,
 ⟨(some 31), .bin .neq (.tmp 28) (.tmp 30), (some (26, false)), 0, false⟩,
 ⟨(some 32), .pick (.tmp 26) (.const (.bool true)) (.tmp 31), none, 0, false⟩,
 ⟨(some 33), .move (.tmp 32), none, 0, false⟩,
 ⟨(some 34), .move (.tmp 0), (some (33, false)), 0, false⟩,
 ⟨(some 35), .len false (.tmp 34), (some (33, false)), 0, false⟩,
 ⟨(some 36), .bin .gtr (.tmp 35) (.const (.int .i64 1500)), (some (33, false)), 0, false⟩,
 ⟨(some 37), .pick (.tmp 33) (.const (.bool true)) (.tmp 36), none, 0, false⟩])
 (.cond (.tmp 37) (.seq (.region [⟨(some 2), .move (.const (.int .i64 53)), none, 0, false⟩])
 .ret)
 .skip))
 (.seq (.seq (.region [⟨(some 38), .move (.tmp 0), none, 0, false⟩,
 ⟨(some 39), .move (.tmp 3), none, 0, false⟩,
 ⟨(some 40), .slice 1 (.tmp 38) none (some (.tmp 39)) none, none, 0, false⟩,
 ⟨(some 41), .call (.func 197) [(.tmp 40)], none, 0, false⟩,
 ⟨(some 42), .bin .neq (.tmp 41) (.const (.int .u16 0)), none, 0, false⟩])
 (.cond (.tmp 42) (.seq (.region [⟨(some 2), .move (.const (.int .i64 54)), none, 0, false⟩])
 .ret)
 .skip))
 (.seq (.region [⟨(some 2), .move (.const (.int .i64 0)), none, 0, false⟩])
 .ret)))))))⟩

def L131 : LFunc := ⟨18, [.tmp 4],
 (.seq (.region [⟨(some 4), .move (.const (.int .i64 0)), none, 0, false⟩])
 (.seq (.draw [⟨(some 5), .move (.tmp 0), none, 0, false⟩,
 ⟨(some 6), .move (.tmp 1), none, 0, false⟩,
 ⟨(some 7), .indexAddr 1 (.tmp 5) (.tmp 6), none, 0, false⟩,
 ⟨(some 8), .load1 (.tmp 7), none, 0, false⟩,
 ⟨(some 9), .conv (.int .i64) (.tmp 8), none, 0, false⟩,
 ⟨(some 10), .bin .shl (.tmp 9) (.const (.int .u64 8)), none, 0, false⟩,
 ⟨(some 11), .move (.tmp 0), none, 0, false⟩,
 ⟨(some 12), .move (.tmp 1), none, 0, false⟩,
 ⟨(some 13), .bin .add (.tmp 12) (.const (.int .i64 1)), none, 0, false⟩,
 ⟨(some 14), .indexAddr 1 (.tmp 11) (.tmp 13), none, 0, false⟩,
 ⟨(some 15), .load1 (.tmp 14), none, 0, false⟩,
 ⟨(some 16), .conv (.int .i64) (.tmp 15), none, 0, false⟩,
 ⟨(some 17), .bin .or (.tmp 10) (.tmp 16), none, 0, false⟩,
 ⟨(some 4), .move (.tmp 17), none, 0, false⟩])
 .ret))⟩

def L132 : LFunc := ⟨8, [.tmp 2],
 (.seq (.region [⟨(some 2), .move (.const (.slice none 0 0)), none, 0, false⟩])
 (.seq (.seq (.region [⟨(some 3), .move (.tmp 0), none, 0, false⟩,
 ⟨(some 4), .eq false .slc (.tmp 3) (.const (.slice none 0 0)), none, 0, false⟩])
 (.cond (.tmp 4) (.seq (.region [⟨(some 2), .move (.const (.slice none 0 0)), none, 0, false⟩])
 .ret)
 .skip))
 (.seq (.region [⟨(some 5), .buildSlice 0 1 5 [] [], none, 0, false⟩,
 ⟨(some 6), .move (.tmp 0), none, 0, false⟩,
 ⟨(some 7), .append 1 1 5 [(.int .u8 0)] false (.tmp 5) (.tmp 6), none, 0, false⟩,
 ⟨(some 2), .move (.tmp 7), none, 0, false⟩])
 .ret)))⟩

def L133 : LFunc := ⟨15, [.cellN 4 5],
 (.seq (.region [⟨(some 2), .box 4 38 (.tmp 0), none, 0, false⟩,
 ⟨(some 4), .alloc [(.int .u8 0), (.int .u8 0), (.int .u8 0), (.int .u8 0), (.int .i64 0)] 40, none, 0, false⟩])
 (.seq (.region [⟨(some 5), .loadN 4 (.tmp 2), none, 0, false⟩,
 ⟨(some 6), .call (.func 183) [(.tmp 5)], none, 0, false⟩,
 ⟨(some 7), .move (.tmp 1), none, 0, false⟩,
 ⟨(some 8), .call (.func 199) [(.tmp 7)], none, 0, false⟩,
 ⟨(some 9), .bin .and (.tmp 6) (.tmp 8), none, 0, false⟩,
 ⟨(some 10), .call (.func 198) [(.tmp 9)], none, 0, false⟩,
 ⟨(some 11), .move (.tmp 1), none, 0, false⟩,
 ⟨(some 12), .min [(.tmp 11), (.const (.int .i64 32))], none, 0, false⟩,
 ⟨(some 13), .max [(.const (.int .i64 0)), (.tmp 12)], none, 0, false⟩,
 ⟨(some 14), .build [(.int .u8 0), (.int .u8 0), (.int .u8 0), (.int .u8 0), (.int .i64 0)] [(0, 4, (.tmp 10)), (4, 1, (.tmp 13))], none, 0, false⟩,
 ⟨none, .store 5 (.tmp 4) (.tmp 14), none, 0, false⟩])
 .ret))⟩

def L134 : LFunc := ⟨34, [.tmp 4],
 (.seq (.region [⟨(some 4), .move (.const (.bool false)), none, 0, false⟩])
 (.seq (.seq (.draw [⟨(some 5), .move (.tmp 0), none, 0, false⟩,
 ⟨(some 6), .nilCheck (.tmp 5), none, 0, false⟩,
 ⟨(some 7), .fieldAddr 2 (.tmp 6), none, 0, false⟩,
 ⟨(some 8), .load1 (.tmp 7), none, 0, false⟩,
 ⟨(some 9), .move (.tmp 0), none, 0, false⟩,
 ⟨(some 10), .nilCheck (.tmp 9), none, 0, false⟩,
 ⟨(some 11), .fieldAddr 0 (.tmp 10), none, 0, false⟩,
 ⟨(some 12), .load1 (.tmp 11), none, 0, false⟩,
 ⟨(some 13), .len false (.tmp 12), none, 0, false⟩,
 ⟨(some 14), .bin .geq (.tmp 8) (.tmp 13), none, 0, false⟩])
 (.cond (.tmp 14) (.seq (.region [⟨(some 4), .move (.const (.bool false)), none, 0, false⟩])
 .ret)
 .skip))
 (.seq (.draw [⟨(some 19), .move (.tmp 0), none, 0, false⟩,
 ⟨(some 20), .move (.tmp 0), none, 0, false⟩,
 ⟨(some 21), .nilCheck (.tmp 20), none, 0, false⟩,
 ⟨(some 22), .fieldAddr 2 (.tmp 21), none, 0, false⟩,
 ⟨(some 23), .load1 (.tmp 22), none, 0, false⟩,
 ⟨(some 24), .call (.func 200) [(.tmp 19), (.tmp 23)], none, 0, true⟩,
 ⟨(some 15), .move (.tmp 0), none, 0, false⟩,
 ⟨(some 16), .nilCheck (.tmp 15), none, 0, false⟩,
 ⟨(some 17), .fieldAddr 0 (.tmp 16), none, 0, false⟩,
 ⟨(some 18), .load1 (.tmp 17), none, 0, false⟩,
 ⟨(some 25), .move (.tmp 1), none, 0, false⟩,
 ⟨(some 26), .indexAddr 1 (.tmp 18) (.tmp 24), none, 1, false⟩,
 ⟨none, .store 1 (.tmp 26) (.tmp 25), none, 1, true⟩])
 (.seq (.region [⟨(some 27), .move (.tmp 0), none, 0, false⟩,
 ⟨(some 28), .nilCheck (.tmp 27), none, 0, false⟩,
 ⟨(some 29), .fieldAddr 2 (.tmp 28), none, 0, false⟩,
 ⟨(some 30), .load1 (.tmp 29), none, 0, false⟩,
 ⟨(some 31), .bin .add (.tmp 30) (.const (.int .i64 1)), none, 0, false⟩,
 ⟨(some 32), .nilCheck (.tmp 27), none, 0, false⟩,
 ⟨(some 33), .fieldAddr 2 (.tmp 32), none, 0, false⟩,
 ⟨none, .store 1 (.tmp 33) (.tmp 31), none, 0, false⟩])
 (.seq (.region [⟨(some 4), .move (.const (.bool true)), none, 0, false⟩])
 .ret)))))⟩

def L135 : LFunc := ⟨9, [.tmp 4],
 (.seq (.region [⟨(some 4), .move (.const (.bool false)), none, 0, false⟩])
 (.seq (.region [⟨(some 5), .move (.tmp 0), none, 0, false⟩,
 ⟨(some 6), .move (.tmp 1), none, 0, false⟩,
 ⟨(some 7), .call (.func 201) [(.tmp 5), (.tmp 6)], none, 0, false⟩,
 ⟨(some 8), .bin .geq (.tmp 7) (.const (.int .i64 0)), none, 0, false⟩,
 ⟨(some 4), .move (.tmp 8), none, 0, false⟩])
 .ret))⟩

def L136 : LFunc := ⟨53, [.tmp 2],
 (.seq (.region [⟨(some 1), .box 14 155 (.tmp 0), none, 0, false⟩,
 ⟨(some 2), .move (.const (.bool false)), none, 0, false⟩])
 (.seq (.seq (.region [⟨(some 5), .fieldAddr 0 (.tmp 1), none, 0, false⟩,
 ⟨(some 6), .load1 (.tmp 5), none, 0, false⟩,
 ⟨(some 7), .fieldAddr 3 (.tmp 1), none, 0, false⟩,
 ⟨(some 8), .load1 (.tmp 7), none, 0, false⟩,
 ⟨(some 9), .fieldAddr 4 (.tmp 1), none, 0, false⟩,
 ⟨(some 10), .load1 (.tmp 9), none, 0, false⟩,
 ⟨(some 11), .build [(.int .i64 0), (.int .i64 0), (.int .i64 0)] [(0, 1, (.tmp 6)), (1, 1, (.tmp 8)), (2, 1, (.tmp 10))], none, 0, false⟩,
 ⟨(some 12), .move (.const (.int .i64 0)), none, 0, false⟩])
 (.block 0 (.loop (.seq (.region [⟨(some 13), .bin .lss (.tmp 12) (.const (.int .i64 3)), none, 0, false⟩])
 (.seq (.cond (.tmp 13) .skip
 (.exit 0))
 (.seq (.block 1 (.seq (.region [⟨(some 14), .indexAgg 3 1 false (.tmp 11) (.tmp 12), none, 0, false⟩,
 ⟨(some 4), .move (.tmp 14), none, 0, false⟩])
 (.seq (.region [⟨(some 15), .move (.tmp 4), none, 0, false⟩,
 ⟨(some 16), .bin .lss (.tmp 15) (.const (.int .i64 0)), none, 0, false⟩,
 ⟨(some 17), .move (.tmp 16), none, 0, false⟩,
 ⟨(some 18), .move (.tmp 4), (some (17, false)), 0, false⟩,
 ⟨(some 19), .bin .gtr (.tmp 18) (.const (.int .i64 255)), (some (17, false)), 0, false⟩,
 ⟨(some 20), .pick (.tmp 17) (.const (.bool true)) (.tmp 19), none, 0, false⟩])
 (.cond (.tmp 20) (.seq (.region [⟨(some 2), .move (.const (.bool false)), none, 0, false⟩])
 .ret)
 .skip))))
 (.region [⟨(some 21), .bin .add (.tmp 12) (.const (.int .i64 1)), none, 0, false⟩,
 ⟨(some 12), .move (.tmp 21), none, 0, false⟩])))))))
 (.seq (.region [⟨(some 22), .fieldAddr 1 (.tmp 1), none, 0, false⟩,
 ⟨(some 23), .load1 (.tmp 22), none, 0, false⟩,
 ⟨(some 24), .bin .geq (.tmp 23) (.const (.int .i64 0)), none, 0, false⟩,
 ⟨(some 25), .move (.tmp 24), none, 0, false⟩,
 ⟨(some 26), .fieldAddr 1 (.tmp 1), (some (25, true)), 0, false⟩,
 ⟨(some 27), .load1 (.tmp 26), (some (25, true)), 0, false⟩,
 ⟨(some 28), .bin .leq (.tmp 27) (.const (.int .i64 65535)), (some (25, true)), 0, false⟩,
 ⟨(some 29), .pick (.tmp 25) (.tmp 28) (.const (.bool false)), none, 0, false⟩,
 ⟨(some 30), .move (.tmp 29), none, 0, false⟩,
 ⟨(some 31), .fieldAddr 2 (.tmp 1), (some (30, true)), 0, false⟩,
 ⟨(some 32), .load1 (.tmp 31), (some (30, true)), 0, false⟩,
 ⟨(some 33), .bin .geq (.tmp 32) (.const (.int .i64 0)), (some (30, true)), 0, false⟩,
 ⟨(some 34), .pick (.tmp 30) (.tmp 33) (.const (.bool false)), none, 0, false⟩,
 ⟨(some 35), .move (.tmp 34), none, 0, false⟩,
 ⟨(some 36), .fieldAddr 2 (.tmp 1), (some (35, true)), 0, false⟩,
 ⟨(some 37), .load1 (.tmp 36), (some (35, true)), 0, false⟩,
 ⟨(some 38), .bin .leq (.tmp 37) (.const (.int .i64 65535)), (some (35, true)), 0, false⟩,
 ⟨(some 39), .pick (.tmp 35) (.tmp 38) (.const (.bool false)), none, 0, false⟩,
 ⟨(some 40), .move (.tmp 39), none, 0, false⟩,
 ⟨(some 41), .fieldAddr 13 (.tmp 1), (some (40, true)), 0, false⟩,
 ⟨(some 42), .load1 (.tmp 41), (some (40, true)), 0, false⟩,
 ⟨(some 43), .len false (.tmp 42), (some (40, true)), 0, false⟩,
 ⟨(some 44), .bin .leq (.tmp 43) (.const (.int .i64 40)), (some (40, true)), 0, false⟩,
 ⟨(some 45), .pick (.tmp 40) (.tmp 44) (.const (.bool false)), none, 0, false⟩,
 ⟨(some 46), .move (.tmp 45), none, 0, false⟩,
 ⟨(some 47), .fieldAddr 13 (.tmp 1), (some (46, true)), 0, false⟩,
 ⟨(some 48), .load1 (.tmp 47), (some (46, true)), 0, false⟩,
 ⟨(some 49), .len false (.tmp 48), (some (46, true)), 0, false⟩,
 ⟨(some 50), .bin .rem (.tmp 49) (.const (.int .i64 4)), (some (46, true)), 0, false⟩,
 ⟨(some 51), .bin .eql (.tmp 50) (.const (.int .i64 0)), (some (46, true)), 0, false⟩,
 ⟨(some 52), .pick (.tmp 46) (.tmp 51) (.const (.bool false)), none, 0, false⟩,
 ⟨(some 2), .move (.tmp 52), none, 0, false⟩])
 .ret)))⟩

def L137 : LFunc := ⟨53, [.tmp 6],
 (.seq (.region [⟨(some 3), .box 14 155 (.tmp 0), none, 0, false⟩,
 ⟨(some 6), .move (.const (.slice none 0 0)), none, 0, false⟩])
 (.seq (.region [⟨(some 8), .fieldAddr 13 (.tmp 3), none, 0, false⟩,
 ⟨(some 9), .load1 (.tmp 8), none, 0, false⟩,
 ⟨(some 10), .len false (.tmp 9), none, 0, false⟩,
 ⟨(some 11), .bin .quo (.tmp 10) (.const (.int .i64 4)), none, 0, false⟩,
 ⟨(some 12), .bin .add (.const (.int .i64 69)) (.tmp 11), none, 0, false⟩,
 ⟨(some 13), .conv (.int .u8) (.tmp 12), none, 0, false⟩,
 ⟨(some 14), .fieldAddr 0 (.tmp 3), none, 0, false⟩,
 ⟨(some 15), .load1 (.tmp 14), none, 0, false⟩,
 ⟨(some 16), .conv (.int .u8) (.tmp 15), none, 0, false⟩,
 ⟨(some 17), .buildSlice 2 1 5 [(.int .u8 0), (.int .u8 0)] [(0, 1, (.tmp 13)), (1, 1, (.tmp 16))], none, 0, false⟩,
 ⟨(some 7), .move (.tmp 17), none, 0, false⟩])
 (.seq (.draw [⟨(some 19), .move (.tmp 1), none, 0, false⟩,
 ⟨(some 20), .call (.func 202) [(.tmp 19)], none, 0, true⟩,
 ⟨(some 18), .move (.tmp 7), none, 0, false⟩,
 ⟨(some 21), .append 1 1 5 [(.int .u8 0)] false (.tmp 18) (.tmp 20), none, 1, true⟩,
 ⟨(some 22), .fieldAddr 1 (.tmp 3), none, 0, false⟩,
 ⟨(some 23), .load1 (.tmp 22), none, 0, false⟩,
 ⟨(some 24), .call (.func 202) [(.tmp 23)], none, 2, true⟩,
 ⟨(some 25), .append 1 1 5 [(.int .u8 0)] false (.tmp 21) (.tmp 24), none, 3, true⟩,
 ⟨(some 26), .fieldAddr 2 (.tmp 3), none, 0, false⟩,
 ⟨(some 27), .load1 (.tmp 26), none, 0, false⟩,
 ⟨(some 28), .call (.func 202) [(.tmp 27)], none, 4, true⟩,
 ⟨(some 29), .append 1 1 5 [(.int .u8 0)] false (.tmp 25) (.tmp 28), none, 5, true⟩,
 ⟨(some 7), .move (.tmp 29), none, 6, false⟩])
 (.seq (.region [⟨(some 30), .move (.tmp 7), none, 0, false⟩,
 ⟨(some 31), .fieldAddr 3 (.tmp 3), none, 0, false⟩,
 ⟨(some 32), .load1 (.tmp 31), none, 0, false⟩,
 ⟨(some 33), .conv (.int .u8) (.tmp 32), none, 0, false⟩,
 ⟨(some 34), .fieldAddr 4 (.tmp 3), none, 0, false⟩,
 ⟨(some 35), .load1 (.tmp 34), none, 0, false⟩,
 ⟨(some 36), .conv (.int .u8) (.tmp 35), none, 0, false⟩,
 ⟨(some 37), .buildSlice 2 1 5 [(.int .u8 0), (.int .u8 0)] [(0, 1, (.tmp 33)), (1, 1, (.tmp 36))], none, 0, false⟩,
 ⟨(some 38), .append 1 1 5 [(.int .u8 0)] false (.tmp 30) (.tmp 37), none, 0, false⟩,
 ⟨(some 39), .move (.tmp 2), none, 0, false⟩,
 ⟨(some 40), .call (.func 202) [(.tmp 39)], none, 0, false⟩,
 ⟨(some 41), .append 1 1 5 [(.int .u8 0)] false (.tmp 38) (.tmp 40), none, 0, false⟩,
 ⟨(some 7), .move (.tmp 41), none, 0, false⟩])
 (.seq (.draw [⟨(some 42), .move (.tmp 7), none, 0, false⟩,
 ⟨(some 43), .fieldAddr 5 (.tmp 3), none, 0, false⟩,
 ⟨(some 44), .sliceArr 4 1 (.tmp 43) none none none, none, 0, false⟩,
 ⟨(some 45), .append 1 1 5 [(.int .u8 0)] false (.tmp 42) (.tmp 44), none, 0, true⟩,
 ⟨(some 46), .fieldAddr 9 (.tmp 3), none, 0, false⟩,
 ⟨(some 47), .sliceArr 4 1 (.tmp 46) none none none, none, 0, false⟩,
 ⟨(some 48), .append 1 1 5 [(.int .u8 0)] false (.tmp 45) (.tmp 47), none, 1, true⟩,
 ⟨(some 7), .move (.tmp 48), none, 2, false⟩])
 (.seq (.region [⟨(some 49), .move (.tmp 7), none, 0, false⟩,
 ⟨(some 50), .fieldAddr 13 (.tmp 3), none, 0, false⟩,
 ⟨(some 51), .load1 (.tmp 50), none, 0, false⟩,
 ⟨(some 52), .append 1 1 5 [(.int .u8 0)] false (.tmp 49) (.tmp 51), none, 0, false⟩,
 ⟨(some 6), .move (.tmp 52), none, 0, false⟩])
 .ret))))))⟩

def L138 : LFunc := ⟨38, [.tmp 2],
 (.seq (.region [⟨(some 2), .move (.const (.int .i64 0)), none, 0, false⟩])
 (.seq (.region [⟨(some 3), .move (.const (.int .i64 0)), none, 0, false⟩])
 (.seq (.seq (.region [⟨(some 4), .move (.const (.int .i64 0)), none, 0, false⟩])
 (.block 0 (.loop (.seq (.seq (.region [⟨(some 5), .move (.tmp 4), none, 0, false⟩,
 ⟨(some 6), .move (.tmp 0), none, 0, false⟩,
 ⟨(some 7), .len false (.tmp 6), none, 0, false⟩,
 ⟨(some 8), .bin .lss (.tmp 5) (.tmp 7), none, 0, false⟩])
 (.cond (.tmp 8) .skip
 (.exit 0)))
 (.seq (.block 1 (.seq (.region [⟨(some 11), .move (.tmp 3), none, 0, false⟩,
 ⟨(some 12), .move (.tmp 0), none, 0, false⟩,
 ⟨(some 13), .move (.tmp 4), none, 0, false⟩,
 ⟨(some 14), .indexAddr 1 (.tmp 12) (.tmp 13), none, 0, false⟩,
 ⟨(some 15), .load1 (.tmp 14), none, 0, false⟩,
 ⟨(some 16), .conv (.int .i64) (.tmp 15), none, 0, false⟩,
 ⟨(some 17), .bin .mul (.const (.int .i64 256)) (.tmp 16), none, 0, false⟩,
 ⟨(some 18), .bin .add (.tmp 11) (.tmp 17), none, 0, false⟩,
 ⟨(some 3), .move (.tmp 18), none, 0, false⟩])
 (.seq (.seq (.region [⟨(some 19), .move (.tmp 4), none, 0, false⟩,
 ⟨(some 20), .bin .add (.tmp 19) (.const (.int .i64 1)), none, 0, false⟩,
 ⟨(some 21), .move (.tmp 0), none, 0, false⟩,
 ⟨(some 22), .len false (.tmp 21), none, 0, false⟩,
 ⟨(some 23), .bin .lss (.tmp 20) (.tmp 22), none, 0, false⟩])
 (.cond (.tmp 23) (.region [⟨(some 24), .move (.tmp 3), none, 0, false⟩,
 ⟨(some 25), .move (.tmp 0), none, 0, false⟩,
 ⟨(some 26), .move (.tmp 4), none, 0, false⟩,
 ⟨(some 27), .bin .add (.tmp 26) (.const (.int .i64 1)), none, 0, false⟩,
 ⟨(some 28), .indexAddr 1 (.tmp 25) (.tmp 27), none, 0, false⟩,
 ⟨(some 29), .load1 (.tmp 28), none, 0, false⟩,
 ⟨(some 30), .conv (.int .i64) (.tmp 29), none, 0, false⟩,
 ⟨(some 31), .bin .add (.tmp 24) (.tmp 30), none, 0, false⟩,
 ⟨(some 3), .move (.tmp 31), none, 0, false⟩])
 .skip))
 (.seq (.region [⟨(some 32), .move (.tmp 3), none, 0, false⟩,
 ⟨(some 33), .bin .gtr (.tmp 32) (.const (.int .i64 65535)), none, 0, false⟩])
 (.cond (.tmp 33) (.region [⟨(some 34), .move (.tmp 3), none, 0, false⟩,
 ⟨(some 35), .bin .sub (.tmp 34) (.const (.int .i64 65535)), none, 0, false⟩,
 ⟨(some 3), .move (.tmp 35), none, 0, false⟩])
 .skip)))))
 (.region [⟨(some 9), .move (.tmp 4), none, 0, false⟩,
 ⟨(some 10), .bin .add (.tmp 9) (.const (.int .i64 2)), none, 0, false⟩,
 ⟨(some 4), .move (.tmp 10), none, 0, false⟩]))))))
 (.seq (.region [⟨(some 36), .move (.tmp 3), none, 0, false⟩,
 ⟨(some 37), .bin .sub (.const (.int .i64 65535)) (.tmp 36), none, 0, false⟩,
 ⟨(some 2), .move (.tmp 37), none, 0, false⟩])
 .ret))))⟩

def L139 : LFunc := ⟨8, [.tmp 2],
 (.seq (.region [⟨(some 2), .move (.const (.slice none 0 0)), none, 0, false⟩])
 (.seq (.seq (.region [⟨(some 3), .move (.tmp 0), none, 0, false⟩,
 ⟨(some 4), .eq false .slc (.tmp 3) (.const (.slice none 0 0)), none, 0, false⟩])
 (.cond (.tmp 4) (.seq (.region [⟨(some 2), .move (.const (.slice none 0 0)), none, 0, false⟩])
 .ret)
 .skip))
 (.seq (.region [⟨(some 5), .buildSlice 0 1 3 [] [], none, 0, false⟩,
 ⟨(some 6), .move (.tmp 0), none, 0, false⟩,
 ⟨(some 7), .append 1 8 3 [(.int .i64 0)] false (.tmp 5) (.tmp 6), none, 0, false⟩,
 ⟨(some 2), .move (.tmp 7), none, 0, false⟩])
 .ret)))⟩

def L140 : LFunc := ⟨21, [.tmp 2, .tmp 3],
 (.seq (.region [⟨(some 2), .move (.const (.slice none 0 0)), none, 0, false⟩,
 ⟨(some 3), .move (.const (.bool false)), none, 0, false⟩])
 (.seq (.seq (.region [⟨(some 5), .move (.tmp 0), none, 0, false⟩,
 ⟨(some 6), .nilCheck (.tmp 5), none, 0, false⟩,
 ⟨(some 7), .fieldAddr 2 (.tmp 6), none, 0, false⟩,
 ⟨(some 8), .load1 (.tmp 7), none, 0, false⟩,
 ⟨(some 9), .bin .eql (.tmp 8) (.const (.int .i64 0)), none, 0, false⟩])
 (.cond (.tmp 9) (.seq (.region [⟨(some 4), .move (.const (.slice none 0 0)), none, 0, false⟩])
 (.seq (.region [⟨(some 10), .move (.tmp 4), none, 0, false⟩,
 ⟨(some 2), .move (.tmp 10), none, 0, false⟩,
 ⟨(some 3), .move (.const (.bool false)), none, 0, false⟩])
 .ret))
 .skip))
 (.seq (.draw [⟨(some 11), .move (.tmp 0), none, 0, false⟩,
 ⟨(some 12), .nilCheck (.tmp 11), none, 0, false⟩,
 ⟨(some 13), .fieldAddr 0 (.tmp 12), none, 0, false⟩,
 ⟨(some 14), .load1 (.tmp 13), none, 0, false⟩,
 ⟨(some 15), .move (.tmp 0), none, 0, false⟩,
 ⟨(some 16), .nilCheck (.tmp 15), none, 0, false⟩,
 ⟨(some 17), .fieldAddr 1 (.tmp 16), none, 0, false⟩,
 ⟨(some 18), .load1 (.tmp 17), none, 0, false⟩,
 ⟨(some 19), .indexAddr 1 (.tmp 14) (.tmp 18), none, 0, false⟩,
 ⟨(some 20), .load1 (.tmp 19), none, 0, false⟩,
 ⟨(some 2), .move (.tmp 20), none, 0, false⟩,
 ⟨(some 3), .move (.const (.bool true)), none, 0, false⟩])
 .ret)))⟩

def L141 : LFunc := ⟨41, [.tmp 4, .tmp 5],
 (.seq (.region [⟨(some 4), .move (.const (.pointer none)), none, 0, false⟩,
 ⟨(some 5), .move (.const (.bool false)), none, 0, false⟩])
 (.seq (.region [⟨(some 8), .move (.tmp 0), none, 0, false⟩,
 ⟨(some 9), .call (.func 203) [(.tmp 8)], none, 0, false⟩,
 ⟨(some 6), .move (.tmp 9), none, 0, false⟩])
 (.seq (.seq (.region [⟨(some 10), .move (.tmp 6), none, 0, false⟩,
 ⟨(some 11), .eq false .ptr (.tmp 10) (.const (.pointer none)), none, 0, false⟩])
 (.cond (.tmp 11) (.seq (.region [⟨(some 4), .move (.const (.pointer none)), none, 0, false⟩,
 ⟨(some 5), .move (.const (.bool false)), none, 0, false⟩])
 .ret)
 .skip))
 (.seq (.region [⟨(some 12), .move (.tmp 6), none, 0, false⟩,
 ⟨(some 13), .nilCheck (.tmp 12), none, 0, false⟩,
 ⟨(some 14), .fieldAddr 2 (.tmp 13), none, 0, false⟩,
 ⟨none, .store 1 (.tmp 14) (.const (.bool false)), none, 0, false⟩])
 (.seq (.region [⟨(some 15), .move (.tmp 0), none, 0, false⟩,
 ⟨(some 16), .nilCheck (.tmp 15), none, 0, false⟩,
 ⟨(some 17), .fieldAddr 1 (.tmp 16), none, 0, false⟩,
 ⟨(some 18), .load1 (.tmp 17), none, 0, false⟩,
 ⟨(some 19), .indexAddr 1 (.tmp 18) (.const (.int .i64 0)), none, 0, false⟩,
 ⟨(some 20), .load1 (.tmp 19), none, 0, false⟩,
 ⟨(some 7), .move (.tmp 20), none, 0, false⟩])
 (.seq (.region [⟨(some 21), .move (.tmp 0), none, 0, false⟩,
 ⟨(some 22), .move (.tmp 0), none, 0, false⟩,
 ⟨(some 23), .nilCheck (.tmp 22), none, 0, false⟩,
 ⟨(some 24), .fieldAddr 1 (.tmp 23), none, 0, false⟩,
 ⟨(some 25), .load1 (.tmp 24), none, 0, false⟩,
 ⟨(some 26), .call (.func 204) [(.tmp 25), (.const (.int .i64 0)), (.const (.int .i64 1))], none, 0, false⟩,
 ⟨(some 27), .nilCheck (.tmp 21), none, 0, false⟩,
 ⟨(some 28), .fieldAddr 1 (.tmp 27), none, 0, false⟩,
 ⟨none, .store 1 (.tmp 28) (.tmp 26), none, 0, false⟩])
 (.seq (.seq (.region [⟨(some 29), .move (.tmp 1), none, 0, false⟩])
 (.cond (.tmp 29) (.region [⟨(some 30), .move (.tmp 0), none, 0, false⟩,
 ⟨(some 31), .move (.tmp 0), none, 0, false⟩,
 ⟨(some 32), .nilCheck (.tmp 31), none, 0, false⟩,
 ⟨(some 33), .fieldAddr 1 (.tmp 32), none, 0, false⟩,
 ⟨(some 34), .load1 (.tmp 33), none, 0, false⟩,
 ⟨(some 35), .move (.tmp 7), none, 0, false⟩,
 ⟨(some 36), .buildSlice 1 1 3 [(.int .i64 0)] [(0, 1, (.tmp 35))], none, 0, false⟩,
 ⟨(some 37), .append 1 8 3 [(.int .i64 0)] false (.tmp 34) (.tmp 36), none, 0, false⟩,
 ⟨(some 38), .nilCheck (.tmp 30), none, 0, false⟩,
 ⟨(some 39), .fieldAddr 1 (.tmp 38), none, 0, false⟩,
 ⟨none, .store 1 (.tmp 39) (.tmp 37), none, 0, false⟩])
 .skip))
 (.seq (.region [⟨(some 40), .move (.tmp 6), none, 0, false⟩,
 ⟨(some 4), .move (.tmp 40), none, 0, false⟩,
 ⟨(some 5), .move (.const (.bool true)), none, 0, false⟩])
 .ret))))))))⟩

def L142 : LFunc := ⟨16, [.tmp 4],
 (.seq (.region [⟨(some 4), .move (.const (.bool false)), none, 0, false⟩])
 (.seq (.draw [⟨(some 5), .move (.tmp 1), none, 0, false⟩,
 ⟨(some 6), .move (.tmp 0), none, 0, false⟩,
 ⟨(some 7), .nilCheck (.tmp 6), none, 0, false⟩,
 ⟨(some 8), .fieldAddr 2 (.tmp 7), none, 0, false⟩,
 ⟨(some 9), .load1 (.tmp 8), none, 0, false⟩,
 ⟨(some 10), .move (.tmp 0), none, 0, false⟩,
 ⟨(some 11), .nilCheck (.tmp 10), none, 0, false⟩,
 ⟨(some 12), .fieldAddr 3 (.tmp 11), none, 0, false⟩,
 ⟨(some 13), .load1 (.tmp 12), none, 0, false⟩,
 ⟨(some 14), .bin .sub (.tmp 9) (.tmp 13), none, 0, false⟩,
 ⟨(some 15), .bin .leq (.tmp 5) (.tmp 14), none, 0, false⟩,
 ⟨(some 4), .move (.tmp 15), none, 0, false⟩])
 .ret))⟩

def L143 : LFunc := ⟨27, [.tmp 4],
 (.seq (.region [⟨(some 4), .move (.const (.bool false)), none, 0, false⟩])
 (.seq (.draw [⟨(some 6), .move (.tmp 0), none, 0, false⟩,
 ⟨(some 7), .nilCheck (.tmp 6), none, 0, false⟩,
 ⟨(some 8), .fieldAddr 0 (.tmp 7), none, 0, false⟩,
 ⟨(some 9), .load1 (.tmp 8), none, 0, false⟩,
 ⟨(some 10), .move (.tmp 0), none, 0, false⟩,
 ⟨(some 11), .nilCheck (.tmp 10), none, 0, false⟩,
 ⟨(some 12), .fieldAddr 3 (.tmp 11), none, 0, false⟩,
 ⟨(some 13), .load1 (.tmp 12), none, 0, false⟩,
 ⟨(some 14), .call (.func 205) [(.tmp 9), (.tmp 13)], none, 0, true⟩,
 ⟨(some 5), .move (.tmp 1), none, 0, false⟩,
 ⟨(some 15), .bin .leq (.tmp 5) (.tmp 14), none, 1, false⟩,
 ⟨(some 16), .move (.tmp 15), none, 1, false⟩,
 ⟨(some 17), .move (.tmp 0), (some (16, true)), 1, false⟩,
 ⟨(some 18), .nilCheck (.tmp 17), (some (16, true)), 1, false⟩,
 ⟨(some 19), .fieldAddr 3 (.tmp 18), (some (16, true)), 1, false⟩,
 ⟨(some 20), .load1 (.tmp 19), (some (16, true)), 1, false⟩,
 ⟨(some 21), .move (.tmp 0), (some (16, true)), 1, false⟩,
 ⟨(some 22), .nilCheck (.tmp 21), (some (16, true)), 1, false⟩,
 ⟨(some 23), .fieldAddr 0 (.tmp 22), (some (16, true)), 1, false⟩,
 ⟨(some 24), .load1 (.tmp 23), (some (16, true)), 1, false⟩,
 ⟨(some 25), .bin .leq (.tmp 20) (.tmp 24), (some (16, true)), 1, false⟩,
 ⟨(some 26), .pick (.tmp 16) (.tmp 25) (.const (.bool false)), none, 1, false⟩,
 ⟨(some 4), .move (.tmp 26), none, 1, false⟩])
 .ret))⟩

def L144 : LFunc := ⟨17, [.cellN 4 6],
 (.seq (.region [⟨(some 4), .alloc [(.int .i64 0), (.int .i64 0), (.slice none 0 0), (.slice none 0 0), (.int .u64 0), (.int .u64 0)] 89, none, 0, false⟩])
 (.seq (.draw [⟨(some 10), .move (.tmp 0), none, 0, false⟩,
 ⟨(some 11), .nilCheck (.tmp 10), none, 0, false⟩,
 ⟨(some 12), .fieldAddr 16 (.tmp 11), none, 0, false⟩,
 ⟨(some 13), .load1 (.tmp 12), none, 0, false⟩,
 ⟨(some 14), .move (.tmp 1), none, 0, false⟩,
 ⟨(some 15), .call (.func 206) [(.tmp 13), (.tmp 14)], none, 0, true⟩,
 ⟨(some 5), .move (.tmp 0), none, 0, false⟩,
 ⟨(some 6), .nilCheck (.tmp 5), none, 0, false⟩,
 ⟨(some 7), .fieldAddr 1 (.tmp 6), none, 0, false⟩,
 ⟨(some 8), .fieldAddr 0 (.tmp 7), none, 0, false⟩,
 ⟨(some 9), .load1 (.tmp 8), none, 0, false⟩,
 ⟨(some 16), .build [(.int .i64 0), (.int .i64 0), (.slice none 0 0), (.slice none 0 0), (.int .u64 0), (.int .u64 0)] [(0, 1, (.const (.int .i64 2))), (1, 1, (.tmp 9)), (4, 1, (.tmp 15))], none, 1, false⟩,
 ⟨none, .store 6 (.tmp 4) (.tmp 16), none, 1, true⟩])
 .ret))⟩

def L145 : LFunc := ⟨11, [.tmp 4],
 (.seq (.region [⟨(some 4), .move (.const (.bool false)), none, 0, false⟩])
 (.seq (.region [⟨(some 5), .move (.tmp 1), none, 0, false⟩,
 ⟨(some 6), .move (.tmp 0), none, 0, false⟩,
 ⟨(some 7), .nilCheck (.tmp 6), none, 0, false⟩,
 ⟨(some 8), .fieldAddr 2 (.tmp 7), none, 0, false⟩,
 ⟨(some 9), .load1 (.tmp 8), none, 0, false⟩,
 ⟨(some 10), .bin .leq (.tmp 5) (.tmp 9), none, 0, false⟩,
 ⟨(some 4), .move (.tmp 10), none, 0, false⟩])
 .ret))⟩

def L146 : LFunc := ⟨19, [.tmp 4],
 (.seq (.region [⟨(some 4), .move (.const (.bool false)), none, 0, false⟩])
 (.seq (.region [⟨(some 6), .move (.tmp 0), none, 0, false⟩,
 ⟨(some 7), .move (.tmp 1), none, 0, false⟩,
 ⟨(some 8), .call (.func 145) [(.tmp 6), (.tmp 7)], none, 0, false⟩,
 ⟨(some 5), .move (.tmp 8), none, 0, false⟩])
 (.seq (.seq (.region [⟨(some 9), .move (.tmp 5), none, 0, false⟩])
 (.cond (.tmp 9) (.region [⟨(some 10), .move (.tmp 0), none, 0, false⟩,
 ⟨(some 11), .nilCheck (.tmp 10), none, 0, false⟩,
 ⟨(some 12), .fieldAddr 2 (.tmp 11), none, 0, false⟩,
 ⟨(some 13), .load1 (.tmp 12), none, 0, false⟩,
 ⟨(some 14), .move (.tmp 1), none, 0, false⟩,
 ⟨(some 15), .bin .sub (.tmp 13) (.tmp 14), none, 0, false⟩,
 ⟨(some 16), .nilCheck (.tmp 10), none, 0, false⟩,
 ⟨(some 17), .fieldAddr 2 (.tmp 16), none, 0, false⟩,
 ⟨none, .store 1 (.tmp 17) (.tmp 15), none, 0, false⟩])
 .skip))
 (.seq (.region [⟨(some 18), .move (.tmp 5), none, 0, false⟩,
 ⟨(some 4), .move (.tmp 18), none, 0, false⟩])
 .ret))))⟩

def L147 : LFunc := ⟨53, [.tmp 6],
 (.seq (.region [⟨(some 6), .move (.const (.int .i64 0)), none, 0, false⟩])
 (.seq (.seq (.region [⟨(some 10), .move (.tmp 1), none, 0, false⟩,
 ⟨(some 11), .nilCheck (.tmp 10), none, 0, false⟩,
 ⟨(some 12), .fieldAddr 16 (.tmp 11), none, 0, false⟩,
 ⟨(some 13), .load1 (.tmp 12), none, 0, false⟩,
 ⟨(some 14), .move (.tmp 2), none, 0, false⟩,
 ⟨(some 15), .call (.func 142) [(.tmp 13), (.tmp 14)], none, 0, false⟩,
 ⟨(some 16), .un .not (.tmp 15), none, 0, false⟩])
 (.cond (.tmp 16) (.seq (.region [⟨(some 17), .move (.tmp 1), none, 0, false⟩,
 ⟨(some 18), .move (.tmp 2), none, 0, false⟩,
 ⟨(some 19), .call (.func 144) [(.tmp 17), (.tmp 18)], none, 0, false⟩,
 ⟨(some 7), .alloc [(.int .i64 0), (.int .i64 0), (.slice none 0 0), (.slice none 0 0), (.int .u64 0), (.int .u64 0)] 89, none, 0, false⟩,
 ⟨none, .store 6 (.tmp 7) (.tmp 19), none, 0, false⟩])
 (.seq (.seq (.draw [⟨(some 20), .move (.tmp 0), none, 0, false⟩,
 ⟨(some 21), .nilCheck (.tmp 20), none, 0, false⟩,
 ⟨(some 22), .fieldAddr 4 (.tmp 21), none, 0, false⟩,
 ⟨(some 23), .load1 (.tmp 22), none, 0, false⟩,
 ⟨(some 24), .loadN 6 (.tmp 7), none, 0, false⟩,
 ⟨(some 25), .call (.func 27) [(.tmp 23), (.tmp 24)], none, 0, true⟩,
 ⟨(some 8), .move (.tmp 25), none, 1, false⟩])
 (.seq (.region [⟨(some 26), .move (.tmp 8), none, 0, false⟩,
 ⟨(some 27), .bin .neq (.tmp 26) (.const (.int .i64 0)), none, 0, false⟩])
 (.cond (.tmp 27) (.seq (.region [⟨(some 28), .move (.tmp 0), none, 0, false⟩,
 ⟨(some 29), .move (.tmp 8), none, 0, false⟩,
 ⟨(some 30), .call (.func 29) [(.tmp 28), (.tmp 29)], none, 0, false⟩,
 ⟨(some 6), .move (.tmp 30), none, 0, false⟩])
 .ret)
 .skip)))
 (.seq (.draw [⟨(some 31), .move (.tmp 1), none, 0, false⟩,
 ⟨(some 32), .nilCheck (.tmp 31), none, 0, false⟩,
 ⟨(some 33), .fieldAddr 16 (.tmp 32), none, 0, false⟩,
 ⟨(some 34), .load1 (.tmp 33), none, 0, false⟩,
 ⟨(some 35), .fieldAddr 4 (.tmp 7), none, 0, false⟩,
 ⟨(some 36), .load1 (.tmp 35), none, 0, false⟩,
 ⟨(some 37), .call (.func 207) [(.tmp 34), (.tmp 36)], none, 0, true⟩,
 ⟨(some 9), .move (.tmp 37), none, 1, false⟩])
 (.seq (.region [⟨(some 38), .move (.tmp 9), none, 0, false⟩,
 ⟨(some 39), .bin .neq (.tmp 38) (.const (.int .i64 0)), none, 0, false⟩])
 (.cond (.tmp 39) (.seq (.region [⟨(some 40), .move (.tmp 9), none, 0, false⟩,
 ⟨(some 6), .move (.tmp 40), none, 0, false⟩])
 .ret)
 .skip)))))
 .skip))
 (.seq (.region [⟨(some 41), .move (.tmp 1), none, 0, false⟩,
 ⟨(some 42), .nilCheck (.tmp 41), none, 0, false⟩,
 ⟨(some 43), .fieldAddr 16 (.tmp 42), none, 0, false⟩,
 ⟨(some 44), .load1 (.tmp 43), none, 0, false⟩,
 ⟨(some 45), .move (.tmp 2), none, 0, false⟩,
 ⟨(some 46), .call (.func 208) [(.tmp 44), (.tmp 45)], none, 0, false⟩])
 (.seq (.region [⟨(some 47), .move (.tmp 1), none, 0, false⟩,
 ⟨(some 48), .nilCheck (.tmp 47), none, 0, false⟩,
 ⟨(some 49), .fieldAddr 14 (.tmp 48), none, 0, false⟩,
 ⟨(some 50), .load1 (.tmp 49), none, 0, false⟩,
 ⟨(some 51), .move (.tmp 2), none, 0, false⟩,
 ⟨(some 52), .call (.func 146) [(.tmp 50), (.tmp 51)], none, 0, false⟩])
 (.seq (.region [⟨(some 6), .move (.const (.int .i64 0)), none, 0, false⟩])
 .ret)))))⟩

def L148 : LFunc := ⟨24, [.tmp 2, .tmp 3],
 (.seq (.region [⟨(some 2), .move (.const (.slice none 0 0)), none, 0, false⟩,
 ⟨(some 3), .move (.const (.bool false)), none, 0, false⟩])
 (.seq (.region [⟨(some 7), .move (.tmp 0), none, 0, false⟩,
 ⟨(some 8), .nilCheck (.tmp 7), none, 0, false⟩,
 ⟨(some 9), .fieldAddr 0 (.tmp 8), none, 0, false⟩,
 ⟨(some 10), .call (.func 209) [(.tmp 9)], none, 0, false⟩,
 ⟨(some 6), .move (.tmp 10), none, 0, false⟩,
 ⟨(some 11), .extract (.tmp 6) 0, none, 0, false⟩,
 ⟨(some 12), .extract (.tmp 6) 1, none, 0, false⟩,
 ⟨(some 4), .move (.tmp 11), none, 0, false⟩,
 ⟨(some 5), .move (.tmp 12), none, 0, false⟩])
 (.seq (.region [⟨(some 13), .move (.tmp 0), none, 0, false⟩,
 ⟨(some 14), .nilCheck (.tmp 13), none, 0, false⟩,
 ⟨(some 15), .fieldAddr 3 (.tmp 14), none, 0, false⟩,
 ⟨(some 16), .load1 (.tmp 15), none, 0, false⟩,
 ⟨(some 17), .move (.tmp 4), none, 0, false⟩,
 ⟨(some 18), .len false (.tmp 17), none, 0, false⟩,
 ⟨(some 19), .bin .sub (.tmp 16) (.tmp 18), none, 0, false⟩,
 ⟨(some 20), .nilCheck (.tmp 13), none, 0, false⟩,
 ⟨(some 21), .fieldAddr 3 (.tmp 20), none, 0, false⟩,
 ⟨none, .store 1 (.tmp 21) (.tmp 19), none, 0, false⟩])
 (.seq (.region [⟨(some 22), .move (.tmp 4), none, 0, false⟩,
 ⟨(some 23), .move (.tmp 5), none, 0, false⟩,
 ⟨(some 2), .move (.tmp 22), none, 0, false⟩,
 ⟨(some 3), .move (.tmp 23), none, 0, false⟩])
 .ret))))⟩

def L149 : LFunc := ⟨26, [.tmp 4],
 (.seq (.region [⟨(some 4), .move (.const (.bool false)), none, 0, false⟩])
 (.seq (.region [⟨(some 6), .move (.tmp 0), none, 0, false⟩,
 ⟨(some 7), .call (.func 203) [(.tmp 6)], none, 0, false⟩,
 ⟨(some 5), .move (.tmp 7), none, 0, false⟩])
 (.seq (.seq (.region [⟨(some 8), .move (.tmp 5), none, 0, false⟩,
 ⟨(some 9), .eq false .ptr (.tmp 8) (.const (.pointer none)), none, 0, false⟩,
 ⟨(some 10), .move (.tmp 9), none, 0, false⟩,
 ⟨(some 11), .move (.tmp 1), (some (10, false)), 0, false⟩,
 ⟨(some 12), .move (.tmp 5), (some (10, false)), 0, false⟩,
 ⟨(some 13), .nilCheck (.tmp 12), (some (10, false)), 0, false⟩,
 ⟨(some 14), .fieldAddr 1 (.tmp 13), (some (10, false)), 0, false⟩,
 ⟨(some 15), .load1 (.tmp 14), (some (10, false)), 0, false⟩,
 ⟨(some 16), .bin .gtr (.tmp 11) (.tmp 15), (some (10, false)), 0, false⟩,
 ⟨(some 17), .pick (.tmp 10) (.const (.bool true)) (.tmp 16), none, 0, false⟩])
 (.cond (.tmp 17) (.seq (.region [⟨(some 4), .move (.const (.bool false)), none, 0, false⟩])
 .ret)
 .skip))
 (.seq (.region [⟨(some 18), .move (.tmp 5), none, 0, false⟩,
 ⟨(some 19), .nilCheck (.tmp 18), none, 0, false⟩,
 ⟨(some 20), .fieldAddr 1 (.tmp 19), none, 0, false⟩,
 ⟨(some 21), .load1 (.tmp 20), none, 0, false⟩,
 ⟨(some 22), .move (.tmp 1), none, 0, false⟩,
 ⟨(some 23), .bin .sub (.tmp 21) (.tmp 22), none, 0, false⟩,
 ⟨(some 24), .nilCheck (.tmp 18), none, 0, false⟩,
 ⟨(some 25), .fieldAddr 1 (.tmp 24), none, 0, false⟩,
 ⟨none, .store 1 (.tmp 25) (.tmp 23), none, 0, false⟩])
 (.seq (.region [⟨(some 4), .move (.const (.bool true)), none, 0, false⟩])
 .ret)))))⟩

def L150 : LFunc := ⟨15, [.tmp 2],
 (.seq (.region [⟨(some 2), .move (.const (.bool false)), none, 0, false⟩])
 (.seq (.region [⟨(some 6), .move (.tmp 0), none, 0, false⟩,
 ⟨(some 7), .call (.func 141) [(.tmp 6), (.const (.bool false))], none, 0, false⟩,
 ⟨(some 5), .move (.tmp 7), none, 0, false⟩,
 ⟨(some 8), .extract (.tmp 5) 0, none, 0, false⟩,
 ⟨(some 9), .extract (.tmp 5) 1, none, 0, false⟩,
 ⟨(some 3), .move (.tmp 8), none, 0, false⟩,
 ⟨(some 4), .move (.tmp 9), none, 0, false⟩])
 (.seq (.seq (.region [⟨(some 10), .move (.tmp 4), none, 0, false⟩])
 (.cond (.tmp 10) (.region [⟨(some 11), .move (.tmp 3), none, 0, false⟩,
 ⟨(some 12), .nilCheck (.tmp 11), none, 0, false⟩,
 ⟨(some 13), .fieldAddr 1 (.tmp 12), none, 0, false⟩,
 ⟨none, .store 1 (.tmp 13) (.const (.int .u64 0)), none, 0, false⟩])
 .skip))
 (.seq (.region [⟨(some 14), .move (.tmp 4), none, 0, false⟩,
 ⟨(some 2), .move (.tmp 14), none, 0, false⟩])
 .ret))))⟩

def L153 : LFunc := ⟨13, [.tmp 4],
 (.seq (.region [⟨(some 2), .box 1 56 (.tmp 0), none, 0, false⟩,
 ⟨(some 4), .move (.const (.slice none 0 0)), none, 0, false⟩])
 (.seq (.seq (.region [⟨(some 6), .move (.tmp 1), none, 0, false⟩])
 (.block 0 (.rangeFunc (.tmp 6) [7] (.region [⟨(some 5), .move (.tmp 7), none, 0, false⟩]) (.block 1 (.region [⟨(some 8), .load1 (.tmp 2), none, 0, false⟩,
 ⟨(some 9), .move (.tmp 5), none, 0, false⟩,
 ⟨(some 10), .buildSlice 1 1 3 [(.int .i64 0)] [(0, 1, (.tmp 9))], none, 0, false⟩,
 ⟨(some 11), .append 1 8 3 [(.int .i64 0)] false (.tmp 8) (.tmp 10), none, 0, false⟩,
 ⟨none, .store 1 (.tmp 2) (.tmp 11), none, 0, false⟩])))))
 (.seq (.region [⟨(some 12), .load1 (.tmp 2), none, 0, false⟩,
 ⟨(some 4), .move (.tmp 12), none, 0, false⟩])
 .ret)))⟩

def L154 : LFunc := ⟨134, [],
 (.seq (.region [⟨(some 8), .move (.const (.bool true)), none, 0, false⟩])
 (.seq (.region [⟨(some 9), .move (.const (.bool true)), none, 0, false⟩])
 (.block 0 (.loop (.block 1 (.seq (.region [⟨(some 19), .move (.tmp 2), none, 0, false⟩,
 ⟨(some 20), .move (.tmp 1), none, 0, false⟩,
 ⟨(some 21), .bin .sub (.tmp 19) (.tmp 20), none, 0, false⟩,
 ⟨(some 10), .move (.tmp 21), none, 0, false⟩])
 (.seq (.seq (.region [⟨(some 22), .move (.tmp 10), none, 0, false⟩,
 ⟨(some 23), .bin .leq (.tmp 22) (.const (.int .i64 12)), none, 0, false⟩])
 (.cond (.tmp 23) (.seq (.region [⟨(some 24), .move (.tmp 0), none, 0, false⟩,
 ⟨(some 25), .move (.tmp 1), none, 0, false⟩,
 ⟨(some 26), .move (.tmp 2), none, 0, false⟩,
 ⟨(some 27), .call (.func 210) [(.tmp 24), (.tmp 25), (.tmp 26)], none, 0, false⟩])
 .ret)
 .skip))
 (.seq (.seq (.region [⟨(some 28), .move (.tmp 3), none, 0, false⟩,
 ⟨(some 29), .bin .eql (.tmp 28) (.const (.int .i64 0)), none, 0, false⟩])
 (.cond (.tmp 29) (.seq (.region [⟨(some 30), .move (.tmp 0), none, 0, false⟩,
 ⟨(some 31), .move (.tmp 1), none, 0, false⟩,
 ⟨(some 32), .move (.tmp 2), none, 0, false⟩,
 ⟨(some 33), .call (.func 211) [(.tmp 30), (.tmp 31), (.tmp 32)], none, 0, false⟩])
 .ret)
 .skip))
 (.seq (.seq (.region [⟨(some 34), .move (.tmp 8), none, 0, false⟩,
 ⟨(some 35), .un .not (.tmp 34), none, 0, false⟩])
 (.cond (.tmp 35) (.seq (.region [⟨(some 36), .move (.tmp 0), none, 0, false⟩,
 ⟨(some 37), .move (.tmp 1), none, 0, false⟩,
 ⟨(some 38), .move (.tmp 2), none, 0, false⟩,
 ⟨(some 39), .call (.func 212) [(.tmp 36), (.tmp 37), (.tmp 38)], none, 0, false⟩])
 (.region [⟨(some 40), .move (.tmp 3), none, 0, false⟩,
 ⟨(some 41), .bin .sub (.tmp 40) (.const (.int .i64 1)), none, 0, false⟩,
 ⟨(some 3), .move (.tmp 41), none, 0, false⟩]))
 .skip))
 (.seq (.region [⟨(some 43), .move (.tmp 0), none, 0, false⟩,
 ⟨(some 44), .move (.tmp 1), none, 0, false⟩,
 ⟨(some 45), .move (.tmp 2), none, 0, false⟩,
 ⟨(some 46), .call (.func 213) [(.tmp 43), (.tmp 44), (.tmp 45)], none, 0, false⟩,
 ⟨(some 42), .move (.tmp 46), none, 0, false⟩,
 ⟨(some 47), .extract (.tmp 42) 0, none, 0, false⟩,
 ⟨(some 48), .extract (.tmp 42) 1, none, 0, false⟩,
 ⟨(some 11), .move (.tmp 47), none, 0, false⟩,
 ⟨(some 12), .move (.tmp 48), none, 0, false⟩])
 (.seq (.seq (.region [⟨(some 49), .move (.tmp 12), none, 0, false⟩,
 ⟨(some 50), .bin .eql (.tmp 49) (.const (.int .i64 2)), none, 0, false⟩])
 (.cond (.tmp 50) (.seq (.region [⟨(some 51), .move (.tmp 0), none, 0, false⟩,
 ⟨(some 52), .move (.tmp 1), none, 0, false⟩,
 ⟨(some 53), .move (.tmp 2), none, 0, false⟩,
 ⟨(some 54), .call (.func 214) [(.tmp 51), (.tmp 52), (.tmp 53)], none, 0, false⟩])
 (.seq (.region [⟨(some 55), .move (.tmp 2), none, 0, false⟩,
 ⟨(some 56), .bin .sub (.tmp 55) (.const (.int .i64 1)), none, 0, false⟩,
 ⟨(some 57), .move (.tmp 11), none, 0, false⟩,
 ⟨(some 58), .move (.tmp 1), none, 0, false⟩,
 ⟨(some 59), .bin .sub (.tmp 57) (.tmp 58), none, 0, false⟩,
 ⟨(some 60), .bin .sub (.tmp 56) (.tmp 59), none, 0, false⟩,
 ⟨(some 11), .move (.tmp 60), none, 0, false⟩])
 (.region [⟨(some 12), .move (.const (.int .i64 1)), none, 0, false⟩])))
 .skip))
 (.seq (.seq (.region [⟨(some 61), .move (.tmp 8), none, 0, false⟩,
 ⟨(some 62), .move (.tmp 61), none, 0, false⟩,
 ⟨(some 63), .move (.tmp 9), (some (62, true)), 0, false⟩,
 ⟨(some 64), .pick (.tmp 62) (.tmp 63) (.const (.bool false)), none, 0, false⟩,
 ⟨(some 65), .move (.tmp 64), none, 0, false⟩,
 ⟨(some 66), .move (.tmp 12), (some (65, true)), 0, false⟩,
 ⟨(some 67), .bin .eql (.tmp 66) (.const (.int .i64 1)), (some (65, true)), 0, false⟩,
 ⟨(some 68), .pick (.tmp 65) (.tmp 67) (.const (.bool false)), none, 0, false⟩])
 (.cond (.tmp 68) (.seq (.region [⟨(some 69), .move (.tmp 0), none, 0, false⟩,
 ⟨(some 70), .move (.tmp 1), none, 0, false⟩,
 ⟨(some 71), .move (.tmp 2), none, 0, false⟩,
 ⟨(some 72), .call (.func 215) [(.tmp 69), (.tmp 70), (.tmp 71)], none, 0, false⟩])
 (.cond (.tmp 72) .ret
 .skip))
 .skip))
 (.seq (.seq (.draw [⟨(some 73), .move (.tmp 1), none, 0, false⟩,
 ⟨(some 74), .bin .gtr (.tmp 73) (.const (.int .i64 0)), none, 0, false⟩,
 ⟨(some 75), .move (.tmp 74), none, 0, false⟩,
 ⟨(some 76), .move (.tmp 0), (some (75, true)), 0, false⟩,
 ⟨(some 77), .move (.tmp 1), (some (75, true)), 0, false⟩,
 ⟨(some 78), .bin .sub (.tmp 77) (.const (.int .i64 1)), (some (75, true)), 0, false⟩,
 ⟨(some 79), .indexAddr 1 (.tmp 76) (.tmp 78), (some (75, true)), 0, false⟩,
 ⟨(some 80), .load1 (.tmp 79), (some (75, true)), 0, false⟩,
 ⟨(some 81), .move (.tmp 0), (some (75, true)), 0, false⟩,
 ⟨(some 82), .move (.tmp 11), (some (75, true)), 0, false⟩,
 ⟨(some 83), .indexAddr 1 (.tmp 81) (.tmp 82), (some (75, true)), 0, false⟩,
 ⟨(some 84), .load1 (.tmp 83), (some (75, true)), 0, false⟩,
 ⟨(some 85), .call (.func 216) [(.tmp 80), (.tmp 84)], (some (75, true)), 0, true⟩,
 ⟨(some 86), .un .not (.tmp 85), (some (75, true)), 1, false⟩,
 ⟨(some 87), .pick (.tmp 75) (.tmp 86) (.const (.bool false)), none, 1, false⟩])
 (.cond (.tmp 87) (.seq (.region [⟨(some 88), .move (.tmp 0), none, 0, false⟩,
 ⟨(some 89), .move (.tmp 1), none, 0, false⟩,
 ⟨(some 90), .move (.tmp 2), none, 0, false⟩,
 ⟨(some 91), .move (.tmp 11), none, 0, false⟩,
 ⟨(some 92), .call (.func 217) [(.tmp 88), (.tmp 89), (.tmp 90), (.tmp 91)], none, 0, false⟩,
 ⟨(some 13), .move (.tmp 92), none, 0, false⟩])
 (.seq (.region [⟨(some 93), .move (.tmp 13), none, 0, false⟩,
 ⟨(some 1), .move (.tmp 93), none, 0, false⟩])
 (.exit 1)))
 .skip))
 (.seq (.region [⟨(some 95), .move (.tmp 0), none, 0, false⟩,
 ⟨(some 96), .move (.tmp 1), none, 0, false⟩,
 ⟨(some 97), .move (.tmp 2), none, 0, false⟩,
 ⟨(some 98), .move (.tmp 11), none, 0, false⟩,
 ⟨(some 99), .call (.func 218) [(.tmp 95), (.tmp 96), (.tmp 97), (.tmp 98)], none, 0, false⟩,
 ⟨(some 94), .move (.tmp 99), none, 0, false⟩,
 ⟨(some 100), .extract (.tmp 94) 0, none, 0, false⟩,
 ⟨(some 101), .extract (.tmp 94) 1, none, 0, false⟩,
 ⟨(some 14), .move (.tmp 100), none, 0, false⟩,
 ⟨(some 15), .move (.tmp 101), none, 0, false⟩])
 (.seq (.region [⟨(some 102), .move (.tmp 15), none, 0, false⟩,
 ⟨(some 9), .move (.tmp 102), none, 0, false⟩])
 (.seq (.region [⟨(some 103), .move (.tmp 14), none, 0, false⟩,
 ⟨(some 104), .move (.tmp 1), none, 0, false⟩,
 ⟨(some 105), .bin .sub (.tmp 103) (.tmp 104), none, 0, false⟩,
 ⟨(some 106), .move (.tmp 2), none, 0, false⟩,
 ⟨(some 107), .move (.tmp 14), none, 0, false⟩,
 ⟨(some 108), .bin .sub (.tmp 106) (.tmp 107), none, 0, false⟩,
 ⟨(some 16), .move (.tmp 105), none, 0, false⟩,
 ⟨(some 17), .move (.tmp 108), none, 0, false⟩])
 (.seq (.region [⟨(some 109), .move (.tmp 10), none, 0, false⟩,
 ⟨(some 110), .bin .quo (.tmp 109) (.const (.int .i64 8)), none, 0, false⟩,
 ⟨(some 18), .move (.tmp 110), none, 0, false⟩])
 (.seq (.region [⟨(some 111), .move (.tmp 16), none, 0, false⟩,
 ⟨(some 112), .move (.tmp 17), none, 0, false⟩,
 ⟨(some 113), .bin .lss (.tmp 111) (.tmp 112), none, 0, false⟩])
 (.cond (.tmp 113) (.seq (.region [⟨(some 114), .move (.tmp 16), none, 0, false⟩,
 ⟨(some 115), .move (.tmp 18), none, 0, false⟩,
 ⟨(some 116), .bin .geq (.tmp 114) (.tmp 115), none, 0, false⟩,
 ⟨(some 8), .move (.tmp 116), none, 0, false⟩])
 (.seq (.region [⟨(some 117), .move (.tmp 0), none, 0, false⟩,
 ⟨(some 118), .move (.tmp 1), none, 0, false⟩,
 ⟨(some 119), .move (.tmp 14), none, 0, false⟩,
 ⟨(some 120), .move (.tmp 3), none, 0, false⟩,
 ⟨(some 121), .call (.func 154) [(.tmp 117), (.tmp 118), (.tmp 119), (.tmp 120)], none, 0, false⟩])
 (.region [⟨(some 122), .move (.tmp 14), none, 0, false⟩,
 ⟨(some 123), .bin .add (.tmp 122) (.const (.int .i64 1)), none, 0, false⟩,
 ⟨(some 1), .move (.tmp 123), none, 0, false⟩])))
 (.seq (.region [⟨(some 124), .move (.tmp 17), none, 0, false⟩,
 ⟨(some 125), .move (.tmp 18), none, 0, false⟩,
 ⟨(some 126), .bin .geq (.tmp 124) (.tmp 125), none, 0, false⟩,
 ⟨(some 8), .move (.tmp 126), none, 0, false⟩])
 (.seq (.region [⟨(some 127), .move (.tmp 0), none, 0, false⟩,
 ⟨(some 128), .move (.tmp 14), none, 0, false⟩,
 ⟨(some 129), .bin .add (.tmp 128) (.const (.int .i64 1)), none, 0, false⟩,
 ⟨(some 130), .move (.tmp 2), none, 0, false⟩,
 ⟨(some 131), .move (.tmp 3), none, 0, false⟩,
 ⟨(some 132), .call (.func 154) [(.tmp 127), (.tmp 129), (.tmp 130), (.tmp 131)], none, 0, false⟩])
 (.region [⟨(some 133), .move (.tmp 14), none, 0, false⟩,
 ⟨(some 2), .move (.tmp 133), none, 0, false⟩]))))))))))))))))))))))⟩

def L155 : LFunc := ⟨8, [.tmp 2],
 (.seq (.region [⟨(some 2), .move (.const (.int .i64 0)), none, 0, false⟩])
 (.seq (.cond (.const (.bool false)) (.seq (.region [⟨(some 3), .move (.tmp 0), none, 0, false⟩,
 ⟨(some 4), .conv (.int .u32) (.tmp 3), none, 0, false⟩,
 ⟨(some 5), .call (.func 219) [(.tmp 4)], none, 0, false⟩,
 ⟨(some 2), .move (.tmp 5), none, 0, false⟩])
 .ret)
 .skip)
 (.seq (.region [⟨(some 6), .move (.tmp 0), none, 0, false⟩,
 ⟨(some 7), .call (.func 220) [(.tmp 6)], none, 0, false⟩,
 ⟨(some 2), .move (.tmp 7), none, 0, false⟩])
 .ret)))⟩

def L156 : LFunc := ⟨37, [.cellN 4 3, .tmp 5],
 (.seq (.region [⟨(some 3), .box 6 117 (.tmp 1), none, 0, false⟩,
 ⟨(some 4), .alloc [(.int .u64 0), (.int .u32 0), (.slice none 0 0)] 129, none, 0, false⟩,
 ⟨(some 5), .move (.const (.int .i64 0)), none, 0, false⟩])
 (.seq (.seq (.region [⟨(some 8), .move (.tmp 0), none, 0, false⟩,
 ⟨(some 9), .loadN 6 (.tmp 3), none, 0, false⟩,
 ⟨(some 10), .call (.func 221) [(.tmp 8), (.tmp 9)], none, 0, false⟩,
 ⟨(some 11), .un .not (.tmp 10), none, 0, false⟩])
 (.cond (.tmp 11) (.seq (.region [⟨(some 12), .build [(.int .u64 0), (.int .u32 0), (.slice none 0 0)] [], none, 0, false⟩,
 ⟨none, .store 3 (.tmp 4) (.tmp 12), none, 0, false⟩,
 ⟨(some 5), .move (.const (.int .i64 141)), none, 0, false⟩])
 .ret)
 .skip))
 (.seq (.region [⟨(some 14), .fieldAddr 4 (.tmp 3), none, 0, false⟩,
 ⟨(some 15), .loadN 2 (.tmp 14), none, 0, false⟩,
 ⟨(some 16), .call (.func 222) [(.tmp 15)], none, 0, false⟩,
 ⟨(some 13), .move (.tmp 16), none, 0, false⟩,
 ⟨(some 17), .extract (.tmp 13) 0, none, 0, false⟩,
 ⟨(some 18), .extract (.tmp 13) 1, none, 0, false⟩,
 ⟨(some 6), .move (.tmp 17), none, 0, false⟩,
 ⟨(some 7), .move (.tmp 18), none, 0, false⟩])
 (.seq (.seq (.region [⟨(some 19), .move (.tmp 7), none, 0, false⟩,
 ⟨(some 20), .bin .neq (.tmp 19) (.const (.int .i64 0)), none, 0, false⟩])
 (.cond (.tmp 20) (.seq (.region [⟨(some 21), .build [(.int .u64 0), (.int .u32 0), (.slice none 0 0)] [], none, 0, false⟩,
 ⟨none, .store 3 (.tmp 4) (.tmp 21), none, 0, false⟩,
 ⟨(some 5), .move (.const (.int .i64 141)), none, 0, false⟩])
 .ret)
 .skip))
 (.seq (.draw [⟨(some 26), .fieldAddr 2 (.tmp 3), none, 0, false⟩,
 ⟨(some 27), .load1 (.tmp 26), none, 0, false⟩,
 ⟨(some 28), .fieldAddr 3 (.tmp 3), none, 0, false⟩,
 ⟨(some 29), .load1 (.tmp 28), none, 0, false⟩,
 ⟨(some 30), .conv (.int .u64) (.tmp 29), none, 0, false⟩,
 ⟨(some 31), .buildSlice 2 1 26 [(.int .u64 0), (.int .u64 0)] [(0, 1, (.tmp 27)), (1, 1, (.tmp 30))], none, 0, false⟩,
 ⟨(some 32), .call (.func 116) [(.tmp 31)], none, 0, true⟩,
 ⟨(some 33), .move (.tmp 6), none, 0, false⟩,
 ⟨(some 34), .buildSlice 2 1 36 [(.slice none 0 0), (.slice none 0 0)] [(0, 1, (.tmp 32)), (1, 1, (.tmp 33))], none, 1, false⟩,
 ⟨(some 35), .call (.func 186) [(.tmp 34)], none, 1, true⟩,
 ⟨(some 22), .fieldAddr 0 (.tmp 3), none, 0, false⟩,
 ⟨(some 23), .load1 (.tmp 22), none, 0, false⟩,
 ⟨(some 24), .fieldAddr 1 (.tmp 3), none, 0, false⟩,
 ⟨(some 25), .load1 (.tmp 24), none, 0, false⟩,
 ⟨(some 36), .build [(.int .u64 0), (.int .u32 0), (.slice none 0 0)] [(0, 1, (.tmp 23)), (1, 1, (.tmp 25)), (2, 1, (.tmp 35))], none, 2, false⟩,
 ⟨none, .store 3 (.tmp 4) (.tmp 36), none, 2, true⟩,
 ⟨(some 5), .move (.const (.int .i64 0)), none, 3, false⟩])
 .ret)))))⟩

def L157 : LFunc := ⟨14, [.tmp 2],
 (.seq (.region [⟨(some 2), .move (.const (.int .i64 0)), none, 0, false⟩])
 (.seq (.seq (.region [⟨(some 5), .move (.tmp 0), none, 0, false⟩,
 ⟨(some 6), .len false (.tmp 5), none, 0, false⟩,
 ⟨(some 7), .move (.const (.int .i64 0)), none, 0, false⟩])
 (.block 0 (.loop (.seq (.region [⟨(some 8), .bin .lss (.tmp 7) (.tmp 6), none, 0, false⟩])
 (.seq (.cond (.tmp 8) .skip
 (.exit 0))
 (.seq (.block 1 (.seq (.region [⟨(some 9), .indexAddr 1 (.tmp 5) (.tmp 7), none, 0, false⟩,
 ⟨(some 10), .load1 (.tmp 9), none, 0, false⟩,
 ⟨(some 4), .move (.tmp 10), none, 0, false⟩])
 (.seq (.region [⟨(some 11), .move (.tmp 4), none, 0, false⟩,
 ⟨(some 12), .bin .gtr (.tmp 11) (.const (.int .u64 281474976710656)), none, 0, false⟩])
 (.cond (.tmp 12) (.seq (.region [⟨(some 2), .move (.const (.int .i64 181)), none, 0, false⟩])
 .ret)
 .skip))))
 (.region [⟨(some 13), .bin .add (.tmp 7) (.const (.int .i64 1)), none, 0, false⟩,
 ⟨(some 7), .move (.tmp 13), none, 0, false⟩])))))))
 (.seq (.region [⟨(some 2), .move (.const (.int .i64 0)), none, 0, false⟩])
 .ret)))⟩

def L158 : LFunc := ⟨20, [.tmp 2],
 (.seq (.region [⟨(some 1), .box 5 40 (.tmp 0), none, 0, false⟩,
 ⟨(some 2), .move (.const (.bool false)), none, 0, false⟩])
 (.seq (.draw [⟨(some 3), .fieldAddr 4 (.tmp 1), none, 0, false⟩,
 ⟨(some 4), .load1 (.tmp 3), none, 0, false⟩,
 ⟨(some 5), .bin .geq (.tmp 4) (.const (.int .i64 0)), none, 0, false⟩,
 ⟨(some 6), .move (.tmp 5), none, 0, false⟩,
 ⟨(some 7), .fieldAddr 4 (.tmp 1), (some (6, true)), 0, false⟩,
 ⟨(some 8), .load1 (.tmp 7), (some (6, true)), 0, false⟩,
 ⟨(some 9), .bin .leq (.tmp 8) (.const (.int .i64 32)), (some (6, true)), 0, false⟩,
 ⟨(some 10), .pick (.tmp 6) (.tmp 9) (.const (.bool false)), none, 0, false⟩,
 ⟨(some 11), .move (.tmp 10), none, 0, false⟩,
 ⟨(some 12), .fieldAddr 0 (.tmp 1), (some (11, true)), 0, false⟩,
 ⟨(some 13), .loadN 4 (.tmp 12), (some (11, true)), 0, false⟩,
 ⟨(some 14), .fieldAddr 4 (.tmp 1), (some (11, true)), 0, false⟩,
 ⟨(some 15), .load1 (.tmp 14), (some (11, true)), 0, false⟩,
 ⟨(some 16), .call (.func 133) [(.tmp 13), (.tmp 15)], (some (11, true)), 0, true⟩,
 ⟨(some 17), .loadN 5 (.tmp 1), (some (11, true)), 0, false⟩,
 ⟨(some 18), .eq false (.agg [(0, .n), (1, .n), (2, .n), (3, .n), (4, .n)]) (.tmp 16) (.tmp 17), (some (11, true)), 1, false⟩,
 ⟨(some 19), .pick (.tmp 11) (.tmp 18) (.const (.bool false)), none, 1, false⟩,
 ⟨(some 2), .move (.tmp 19), none, 1, false⟩])
 .ret))⟩

def L159 : LFunc := ⟨38, [.cellN 4 64, .tmp 5],
 (.seq (.region [⟨(some 4), .alloc [(.int .u8 0), (.int .u8 0), (.int .u8 0), (.int .u8 0), (.int .u8 0), (.int .u8 0), (.int .u8 0), (.int .u8 0), (.int .u8 0), (.int .u8 0), (.int .u8 0), (.int .u8 0), (.int .u8 0), (.int .u8 0), (.int .u8 0), (.int .u8 0), (.int .u8 0), (.int .u8 0), (.int .u8 0), (.int .u8 0), (.int .u8 0), (.int .u8 0), (.int .u8 0), (.int .u8 0), (.int .u8 0), (.int .u8 0), (.int .u8 0), (.int .u8 0), (.int .u8 0), (.int .u8 0), (.int .u8 0), (.int .u8 0), (.int .u8 0), (.int .u8 0), (.int .u8 0), (.int .u8 0), (.int .u8 0), (.int .u8 0), (.int .u8 0), (.int .u8 0), (.int .u8 0), (.int .u8 0), (.int .u8 0), (.int .u8 0), (.int .u8 0), (.int .u8 0), (.int .u8 0), (.int .u8 0), (.int .u8 0), (.int .u8 0), (.int .u8 0), (.int .u8 0), (.int .u8 0), (.int .u8 0), (.int .u8 0), (.int .u8 0), (.int .u8 0), (.int .u8 0), (.int .u8 0), (.int .u8 0), (.int .u8 0), (.int .u8 0), (.int .u8 0), (.int .u8 0)] 214, none, 0, false⟩,
 ⟨(some 5), .move (.const (.int .i64 0)), none, 0, false⟩])
 (.seq (.region [⟨(some 11), .move (.tmp 0), none, 0, false⟩,
 ⟨(some 12), .move (.tmp 1), none, 0, false⟩,
 ⟨(some 13), .call (.func 223) [(.tmp 11), (.tmp 12)], none, 0, false⟩,
 ⟨(some 10), .move (.tmp 13), none, 0, false⟩,
 ⟨(some 14), .extract (.tmp 10) 0, none, 0, false⟩,
 ⟨(some 15), .extract (.tmp 10) 1, none, 0, false⟩,
 ⟨(some 6), .alloc [(.int .u8 0), (.int .u8 0), (.int .u8 0), (.int .u8 0), (.int .u8 0), (.int .u8 0), (.int .u8 0), (.int .u8 0), (.int .u8 0), (.int .u8 0), (.int .u8 0), (.int .u8 0), (.int .u8 0), (.int .u8 0), (.int .u8 0), (.int .u8 0), (.int .u8 0), (.int .u8 0), (.int .u8 0), (.int .u8 0), (.int .u8 0), (.int .u8 0), (.int .u8 0), (.int .u8 0), (.int .u8 0), (.int .u8 0), (.int .u8 0), (.int .u8 0), (.int .u8 0), (.int .u8 0), (.int .u8 0), (.int .u8 0), (.int .u8 0), (.int .u8 0), (.int .u8 0), (.int .u8 0), (.int .u8 0), (.int .u8 0), (.int .u8 0), (.int .u8 0), (.int .u8 0), (.int .u8 0), (.int .u8 0), (.int .u8 0), (.int .u8 0), (.int .u8 0), (.int .u8 0), (.int .u8 0), (.int .u8 0), (.int .u8 0), (.int .u8 0), (.int .u8 0), (.int .u8 0), (.int .u8 0), (.int .u8 0), (.int .u8 0), (.int .u8 0), (.int .u8 0), (.int .u8 0), (.int .u8 0), (.int .u8 0), (.int .u8 0), (.int .u8 0), (.int .u8 0)] 214, none, 0, false⟩,
 ⟨none, .store 64 (.tmp 6) (.tmp 14), none, 0, false⟩,
 ⟨(some 7), .move (.tmp 15), none, 0, false⟩])
 (.seq (.seq (.region [⟨(some 16), .move (.tmp 0), none, 0, false⟩,
 ⟨(some 17), .nilCheck (.tmp 16), none, 0, false⟩,
 ⟨(some 18), .fieldAddr 1 (.tmp 17), none, 0, false⟩,
 ⟨(some 19), .load1 (.tmp 18), none, 0, false⟩,
 ⟨(some 20), .len false (.tmp 19), none, 0, false⟩,
 ⟨(some 21), .move (.const (.int .i64 0)), none, 0, false⟩])
 (.block 0 (.loop (.seq (.region [⟨(some 22), .bin .lss (.tmp 21) (.tmp 20), none, 0, false⟩])
 (.seq (.cond (.tmp 22) .skip
 (.exit 0))
 (.seq (.block 1 (.seq (.region [⟨(some 23), .indexAddr 65 (.tmp 19) (.tmp 21), none, 0, false⟩,
 ⟨(some 24), .loadN 65 (.tmp 23), none, 0, false⟩,
 ⟨(some 9), .alloc [(.int .i64 0), (.int .u8 0), (.int .u8 0), (.int .u8 0), (.int .u8 0), (.int .u8 0), (.int .u8 0), (.int .u8 0), (.int .u8 0), (.int .u8 0), (.int .u8 0), (.int .u8 0), (.int .u8 0), (.int .u8 0), (.int .u8 0), (.int .u8 0), (.int .u8 0), (.int .u8 0), (.int .u8 0), (.int .u8 0), (.int .u8 0), (.int .u8 0), (.int .u8 0), (.int .u8 0), (.int .u8 0), (.int .u8 0), (.int .u8 0), (.int .u8 0), (.int .u8 0), (.int .u8 0), (.int .u8 0), (.int .u8 0), (.int .u8 0), (.int .u8 0), (.int .u8 0), (.int .u8 0), (.int .u8 0), (.int .u8 0), (.int .u8 0), (.int .u8 0), (.int .u8 0), (.int .u8 0), (.int .u8 0), (.int .u8 0), (.int .u8 0), (.int .u8 0), (.int .u8 0), (.int .u8 0), (.int .u8 0), (.int .u8 0), (.int .u8 0), (.int .u8 0), (.int .u8 0), (.int .u8 0), (.int .u8 0), (.int .u8 0), (.int .u8 0), (.int .u8 0), (.int .u8 0), (.int .u8 0), (.int .u8 0), (.int .u8 0), (.int .u8 0), (.int .u8 0), (.int .u8 0)] 216, none, 0, false⟩,
 ⟨none, .store 65 (.tmp 9) (.tmp 24), none, 0, false⟩])
 (.seq (.region [⟨(some 25), .move (.tmp 7), none, 0, false⟩,
 ⟨(some 26), .bin .eql (.tmp 25) (.const (.int .i64 0)), none, 0, false⟩,
 ⟨(some 27), .move (.tmp 26), none, 0, false⟩,
 ⟨(some 28), .fieldAddr 0 (.tmp 9), (some (27, true)), 0, false⟩,
 ⟨(some 29), .load1 (.tmp 28), (some (27, true)), 0, false⟩,
 ⟨(some 30), .move (.tmp 1), (some (27, true)), 0, false⟩,
 ⟨(some 31), .bin .eql (.tmp 29) (.tmp 30), (some (27, true)), 0, false⟩,
 ⟨(some 32), .pick (.tmp 27) (.tmp 31) (.const (.bool false)), none, 0, false⟩])
 (.cond (.tmp 32) (.region [⟨(some 33), .fieldAddr 1 (.tmp 9), none, 0, false⟩,
 ⟨(some 34), .loadN 64 (.tmp 33), none, 0, false⟩,
 ⟨none, .store 64 (.tmp 6) (.tmp 34), none, 0, false⟩])
 .skip))))
 (.region [⟨(some 35), .bin .add (.tmp 21) (.const (.int .i64 1)), none, 0, false⟩,
 ⟨(some 21), .move (.tmp 35), none, 0, false⟩])))))))
 (.seq (.region [⟨(some 36), .loadN 64 (.tmp 6), none, 0, false⟩,
 ⟨(some 37), .move (.tmp 7), none, 0, false⟩,
 ⟨none, .store 64 (.tmp 4) (.tmp 36), none, 0, false⟩,
 ⟨(some 5), .move (.tmp 37), none, 0, false⟩])
 .ret))))⟩

def L160 : LFunc := ⟨83, [.cellN 2 3, .tmp 3, .tmp 4],
 (.seq (.region [⟨(some 2), .alloc [(.int .u64 0), (.int .u32 0), (.slice none 0 0)] 129, none, 0, false⟩,
 ⟨(some 3), .move (.const (.int .i64 0)), none, 0, false⟩,
 ⟨(some 4), .move (.const (.bool false)), none, 0, false⟩])
 (.seq (.seq (.region [⟨(some 15), .move (.tmp 0), none, 0, false⟩,
 ⟨(some 16), .len false (.tmp 15), none, 0, false⟩,
 ⟨(some 17), .bin .eql (.tmp 16) (.const (.int .i64 0)), none, 0, false⟩])
 (.cond (.tmp 17) (.seq (.region [⟨(some 18), .build [(.int .u64 0), (.int .u32 0), (.slice none 0 0)] [], none, 0, false⟩,
 ⟨none, .store 3 (.tmp 2) (.tmp 18), none, 0, false⟩,
 ⟨(some 3), .move (.const (.int .i64 0)), none, 0, false⟩,
 ⟨(some 4), .move (.const (.bool false)), none, 0, false⟩])
 .ret)
 .skip))
 (.seq (.region [⟨(some 19), .move (.tmp 0), none, 0, false⟩,
 ⟨(some 20), .indexAddr 64 (.tmp 19) (.const (.int .i64 0)), none, 0, false⟩,
 ⟨(some 21), .sliceArr 64 1 (.tmp 20) none (some (.const (.int .i64 2))) none, none, 0, false⟩,
 ⟨(some 22), .call (.func 224) [(.tmp 21)], none, 0, false⟩,
 ⟨(some 23), .conv (.int .i64) (.tmp 22), none, 0, false⟩,
 ⟨(some 5), .move (.tmp 23), none, 0, false⟩])
 (.seq (.region [⟨(some 24), .move (.tmp 5), none, 0, false⟩,
 ⟨(some 25), .call (.func 182) [(.tmp 24)], none, 0, false⟩,
 ⟨(some 6), .move (.tmp 25), none, 0, false⟩])
 (.seq (.seq (.region [⟨(some 26), .move (.tmp 6), none, 0, false⟩,
 ⟨(some 27), .bin .eql (.tmp 26) (.const (.int .i64 0)), none, 0, false⟩,
 ⟨(some 28), .move (.tmp 27), none, 0, false⟩,
 ⟨(some 29), .move (.tmp 6), (some (28, false)), 0, false⟩,
 ⟨(some 30), .move (.tmp 0), (some (28, false)), 0, false⟩,
 ⟨(some 31), .len false (.tmp 30), (some (28, false)), 0, false⟩,
 ⟨(some 32), .bin .gtr (.tmp 29) (.tmp 31), (some (28, false)), 0, false⟩,
 ⟨(some 33), .pick (.tmp 28) (.const (.bool true)) (.tmp 32), none, 0, false⟩])
 (.cond (.tmp 33) (.seq (.region [⟨(some 34), .build [(.int .u64 0), (.int .u32 0), (.slice none 0 0)] [], none, 0, false⟩,
 ⟨none, .store 3 (.tmp 2) (.tmp 34), none, 0, false⟩,
 ⟨(some 3), .move (.const (.int .i64 0)), none, 0, false⟩,
 ⟨(some 4), .move (.const (.bool false)), none, 0, false⟩])
 .ret)
 .skip))
 (.seq (.region [⟨(some 7), .move (.const (.slice none 0 0)), none, 0, false⟩])
 (.seq (.seq (.region [⟨(some 35), .move (.tmp 0), none, 0, false⟩,
 ⟨(some 36), .move (.tmp 6), none, 0, false⟩,
 ⟨(some 37), .slice 64 (.tmp 35) none (some (.tmp 36)) none, none, 0, false⟩,
 ⟨(some 38), .len false (.tmp 37), none, 0, false⟩,
 ⟨(some 39), .move (.const (.int .i64 0)), none, 0, false⟩])
 (.block 0 (.loop (.seq (.region [⟨(some 40), .bin .lss (.tmp 39) (.tmp 38), none, 0, false⟩])
 (.seq (.cond (.tmp 40) .skip
 (.exit 0))
 (.seq (.block 1 (.seq (.region [⟨(some 41), .indexAddr 64 (.tmp 37) (.tmp 39), none, 0, false⟩,
 ⟨(some 42), .loadN 64 (.tmp 41), none, 0, false⟩,
 ⟨(some 9), .alloc [(.int .u8 0), (.int .u8 0), (.int .u8 0), (.int .u8 0), (.int .u8 0), (.int .u8 0), (.int .u8 0), (.int .u8 0), (.int .u8 0), (.int .u8 0), (.int .u8 0), (.int .u8 0), (.int .u8 0), (.int .u8 0), (.int .u8 0), (.int .u8 0), (.int .u8 0), (.int .u8 0), (.int .u8 0), (.int .u8 0), (.int .u8 0), (.int .u8 0), (.int .u8 0), (.int .u8 0), (.int .u8 0), (.int .u8 0), (.int .u8 0), (.int .u8 0), (.int .u8 0), (.int .u8 0), (.int .u8 0), (.int .u8 0), (.int .u8 0), (.int .u8 0), (.int .u8 0), (.int .u8 0), (.int .u8 0), (.int .u8 0), (.int .u8 0), (.int .u8 0), (.int .u8 0), (.int .u8 0), (.int .u8 0), (.int .u8 0), (.int .u8 0), (.int .u8 0), (.int .u8 0), (.int .u8 0), (.int .u8 0), (.int .u8 0), (.int .u8 0), (.int .u8 0), (.int .u8 0), (.int .u8 0), (.int .u8 0), (.int .u8 0), (.int .u8 0), (.int .u8 0), (.int .u8 0), (.int .u8 0), (.int .u8 0), (.int .u8 0), (.int .u8 0), (.int .u8 0)] 214, none, 0, false⟩,
 ⟨none, .store 64 (.tmp 9) (.tmp 42), none, 0, false⟩])
 (.region [⟨(some 43), .move (.tmp 7), none, 0, false⟩,
 ⟨(some 44), .sliceArr 64 1 (.tmp 9) none none none, none, 0, false⟩,
 ⟨(some 45), .append 1 1 5 [(.int .u8 0)] false (.tmp 43) (.tmp 44), none, 0, false⟩,
 ⟨(some 7), .move (.tmp 45), none, 0, false⟩])))
 (.region [⟨(some 46), .bin .add (.tmp 39) (.const (.int .i64 1)), none, 0, false⟩,
 ⟨(some 39), .move (.tmp 46), none, 0, false⟩])))))))
 (.seq (.region [⟨(some 47), .move (.tmp 5), none, 0, false⟩,
 ⟨(some 48), .bin .add (.const (.int .i64 14)) (.tmp 47), none, 0, false⟩,
 ⟨(some 49), .bin .add (.tmp 48) (.const (.int .i64 4)), none, 0, false⟩,
 ⟨(some 10), .move (.tmp 49), none, 0, false⟩])
 (.seq (.region [⟨(some 51), .move (.tmp 7), none, 0, false⟩,
 ⟨(some 52), .move (.tmp 10), none, 0, false⟩,
 ⟨(some 53), .slice 1 (.tmp 51) none (some (.tmp 52)) none, none, 0, false⟩,
 ⟨(some 54), .call (.func 225) [(.tmp 53)], none, 0, false⟩,
 ⟨(some 50), .move (.tmp 54), none, 0, false⟩,
 ⟨(some 55), .extract (.tmp 50) 0, none, 0, false⟩,
 ⟨(some 56), .extract (.tmp 50) 1, none, 0, false⟩,
 ⟨(some 11), .move (.tmp 55), none, 0, false⟩,
 ⟨(some 12), .move (.tmp 56), none, 0, false⟩])
 (.seq (.region [⟨(some 57), .move (.tmp 7), none, 0, false⟩,
 ⟨(some 58), .move (.tmp 10), none, 0, false⟩,
 ⟨(some 59), .slice 1 (.tmp 57) (some (.tmp 58)) none none, none, 0, false⟩,
 ⟨(some 60), .call (.func 226) [(.tmp 59), (.func 227)], none, 0, false⟩,
 ⟨(some 13), .move (.tmp 60), none, 0, false⟩])
 (.seq (.seq (.region [⟨(some 61), .move (.tmp 12), none, 0, false⟩,
 ⟨(some 62), .un .not (.tmp 61), none, 0, false⟩,
 ⟨(some 63), .move (.tmp 62), none, 0, false⟩,
 ⟨(some 64), .move (.tmp 13), (some (63, false)), 0, false⟩,
 ⟨(some 65), .pick (.tmp 63) (.const (.bool true)) (.tmp 64), none, 0, false⟩])
 (.cond (.tmp 65) (.seq (.region [⟨(some 66), .build [(.int .u64 0), (.int .u32 0), (.slice none 0 0)] [], none, 0, false⟩,
 ⟨none, .store 3 (.tmp 2) (.tmp 66), none, 0, false⟩,
 ⟨(some 3), .move (.const (.int .i64 0)), none, 0, false⟩,
 ⟨(some 4), .move (.const (.bool false)), none, 0, false⟩])
 .ret)
 .skip))
 (.seq (.draw [⟨(some 67), .move (.tmp 11), none, 0, false⟩,
 ⟨(some 68), .slice 1 (.tmp 67) (some (.const (.int .i64 2))) (some (.const (.int .i64 10))) none, none, 0, false⟩,
 ⟨(some 69), .call (.func 224) [(.tmp 68)], none, 0, true⟩,
 ⟨(some 70), .move (.tmp 11), none, 0, false⟩,
 ⟨(some 71), .slice 1 (.tmp 70) (some (.const (.int .i64 10))) (some (.const (.int .i64 14))) none, none, 0, false⟩,
 ⟨(some 72), .call (.func 224) [(.tmp 71)], none, 1, true⟩,
 ⟨(some 73), .conv (.int .u32) (.tmp 72), none, 2, false⟩,
 ⟨(some 74), .move (.tmp 11), none, 0, false⟩,
 ⟨(some 75), .slice 1 (.tmp 74) (some (.const (.int .i64 14))) none none, none, 0, false⟩,
 ⟨(some 76), .build [(.int .u64 0), (.int .u32 0), (.slice none 0 0)] [(0, 1, (.tmp 69)), (1, 1, (.tmp 73)), (2, 1, (.tmp 75))], none, 2, false⟩,
 ⟨(some 14), .alloc [(.int .u64 0), (.int .u32 0), (.slice none 0 0)] 129, none, 0, false⟩,
 ⟨none, .store 3 (.tmp 14) (.tmp 76), none, 2, true⟩])
 (.seq (.seq (.region [⟨(some 77), .fieldAddr 0 (.tmp 14), none, 0, false⟩,
 ⟨(some 78), .load1 (.tmp 77), none, 0, false⟩,
 ⟨(some 79), .bin .eql (.tmp 78) (.const (.int .u64 0)), none, 0, false⟩])
 (.cond (.tmp 79) (.seq (.region [⟨(some 80), .build [(.int .u64 0), (.int .u32 0), (.slice none 0 0)] [], none, 0, false⟩,
 ⟨none, .store 3 (.tmp 2) (.tmp 80), none, 0, false⟩,
 ⟨(some 3), .move (.const (.int .i64 0)), none, 0, false⟩,
 ⟨(some 4), .move (.const (.bool false)), none, 0, false⟩])
 .ret)
 .skip))
 (.seq (.region [⟨(some 81), .loadN 3 (.tmp 14), none, 0, false⟩,
 ⟨(some 82), .move (.tmp 6), none, 0, false⟩,
 ⟨none, .store 3 (.tmp 2) (.tmp 81), none, 0, false⟩,
 ⟨(some 3), .move (.tmp 82), none, 0, false⟩,
 ⟨(some 4), .move (.const (.bool true)), none, 0, false⟩])
 .ret))))))))))))))⟩

def L161 : LFunc := ⟨71, [.cellN 4 6, .tmp 5],
 (.seq (.region [⟨(some 3), .box 3 129 (.tmp 1), none, 0, false⟩,
 ⟨(some 4), .alloc [(.int .u64 0), (.int .u32 0), (.int .u64 0), (.int .i64 0), (.int .u64 0), (.slice none 0 0)] 117, none, 0, false⟩,
 ⟨(some 5), .move (.const (.bool false)), none, 0, false⟩])
 (.seq (.region [⟨(some 16), .fieldAddr 2 (.tmp 3), none, 0, false⟩,
 ⟨(some 17), .load1 (.tmp 16), none, 0, false⟩,
 ⟨(some 18), .call (.func 164) [(.tmp 17)], none, 0, false⟩,
 ⟨(some 15), .move (.tmp 18), none, 0, false⟩,
 ⟨(some 19), .extract (.tmp 15) 0, none, 0, false⟩,
 ⟨(some 20), .extract (.tmp 15) 1, none, 0, false⟩,
 ⟨(some 21), .extract (.tmp 15) 2, none, 0, false⟩,
 ⟨(some 6), .move (.tmp 19), none, 0, false⟩,
 ⟨(some 7), .move (.tmp 20), none, 0, false⟩,
 ⟨(some 8), .move (.tmp 21), none, 0, false⟩])
 (.seq (.seq (.region [⟨(some 22), .move (.tmp 8), none, 0, false⟩,
 ⟨(some 23), .bin .neq (.tmp 22) (.const (.int .i64 0)), none, 0, false⟩])
 (.cond (.tmp 23) (.seq (.region [⟨(some 24), .build [(.int .u64 0), (.int .u32 0), (.int .u64 0), (.int .i64 0), (.int .u64 0), (.slice none 0 0)] [], none, 0, false⟩,
 ⟨none, .store 6 (.tmp 4) (.tmp 24), none, 0, false⟩,
 ⟨(some 5), .move (.const (.bool false)), none, 0, false⟩])
 .ret)
 .skip))
 (.seq (.region [⟨(some 26), .fieldAddr 2 (.tmp 3), none, 0, false⟩,
 ⟨(some 27), .load1 (.tmp 26), none, 0, false⟩,
 ⟨(some 28), .move (.tmp 7), none, 0, false⟩,
 ⟨(some 29), .slice 1 (.tmp 27) (some (.tmp 28)) none none, none, 0, false⟩,
 ⟨(some 30), .call (.func 164) [(.tmp 29)], none, 0, false⟩,
 ⟨(some 25), .move (.tmp 30), none, 0, false⟩,
 ⟨(some 31), .extract (.tmp 25) 0, none, 0, false⟩,
 ⟨(some 32), .extract (.tmp 25) 1, none, 0, false⟩,
 ⟨(some 33), .extract (.tmp 25) 2, none, 0, false⟩,
 ⟨(some 9), .move (.tmp 31), none, 0, false⟩,
 ⟨(some 10), .move (.tmp 32), none, 0, false⟩,
 ⟨(some 8), .move (.tmp 33), none, 0, false⟩])
 (.seq (.seq (.region [⟨(some 34), .move (.tmp 8), none, 0, false⟩,
 ⟨(some 35), .bin .neq (.tmp 34) (.const (.int .i64 0)), none, 0, false⟩])
 (.cond (.tmp 35) (.seq (.region [⟨(some 36), .build [(.int .u64 0), (.int .u32 0), (.int .u64 0), (.int .i64 0), (.int .u64 0), (.slice none 0 0)] [], none, 0, false⟩,
 ⟨none, .store 6 (.tmp 4) (.tmp 36), none, 0, false⟩,
 ⟨(some 5), .move (.const (.bool false)), none, 0, false⟩])
 .ret)
 .skip))
 (.seq (.region [⟨(some 38), .move (.tmp 9), none, 0, false⟩,
 ⟨(some 39), .call (.func 106) [(.tmp 38)], none, 0, false⟩,
 ⟨(some 37), .move (.tmp 39), none, 0, false⟩,
 ⟨(some 40), .extract (.tmp 37) 0, none, 0, false⟩,
 ⟨(some 41), .extract (.tmp 37) 1, none, 0, false⟩,
 ⟨(some 11), .move (.tmp 40), none, 0, false⟩,
 ⟨(some 12), .move (.tmp 41), none, 0, false⟩])
 (.seq (.region [⟨(some 43), .fieldAddr 2 (.tmp 3), none, 0, false⟩,
 ⟨(some 44), .load1 (.tmp 43), none, 0, false⟩,
 ⟨(some 45), .move (.tmp 7), none, 0, false⟩,
 ⟨(some 46), .move (.tmp 10), none, 0, false⟩,
 ⟨(some 47), .bin .add (.tmp 45) (.tmp 46), none, 0, false⟩,
 ⟨(some 48), .slice 1 (.tmp 44) (some (.tmp 47)) none none, none, 0, false⟩,
 ⟨(some 49), .call (.func 228) [(.tmp 48)], none, 0, false⟩,
 ⟨(some 42), .move (.tmp 49), none, 0, false⟩,
 ⟨(some 50), .extract (.tmp 42) 0, none, 0, false⟩,
 ⟨(some 51), .extract (.tmp 42) 1, none, 0, false⟩,
 ⟨(some 13), .alloc [(.int .u64 0), (.slice none 0 0)] 85, none, 0, false⟩,
 ⟨none, .store 2 (.tmp 13) (.tmp 50), none, 0, false⟩,
 ⟨(some 8), .move (.tmp 51), none, 0, false⟩])
 (.seq (.region [⟨(some 52), .fieldAddr 0 (.tmp 3), none, 0, false⟩,
 ⟨(some 53), .load1 (.tmp 52), none, 0, false⟩,
 ⟨(some 54), .fieldAddr 1 (.tmp 3), none, 0, false⟩,
 ⟨(some 55), .load1 (.tmp 54), none, 0, false⟩,
 ⟨(some 56), .move (.tmp 6), none, 0, false⟩,
 ⟨(some 57), .move (.tmp 11), none, 0, false⟩,
 ⟨(some 58), .loadN 2 (.tmp 13), none, 0, false⟩,
 ⟨(some 59), .build [(.int .u64 0), (.int .u32 0), (.int .u64 0), (.int .i64 0), (.int .u64 0), (.slice none 0 0)] [(0, 1, (.tmp 53)), (1, 1, (.tmp 55)), (2, 1, (.tmp 56)), (3, 1, (.tmp 57)), (4, 2, (.tmp 58))], none, 0, false⟩,
 ⟨(some 14), .alloc [(.int .u64 0), (.int .u32 0), (.int .u64 0), (.int .i64 0), (.int .u64 0), (.slice none 0 0)] 117, none, 0, false⟩,
 ⟨none, .store 6 (.tmp 14) (.tmp 59), none, 0, false⟩])
 (.seq (.draw [⟨(some 61), .move (.tmp 12), none, 0, false⟩,
 ⟨(some 62), .move (.tmp 61), none, 0, false⟩,
 ⟨(some 63), .move (.tmp 8), (some (62, true)), 0, false⟩,
 ⟨(some 64), .bin .eql (.tmp 63) (.const (.int .i64 0)), (some (62, true)), 0, false⟩,
 ⟨(some 65), .pick (.tmp 62) (.tmp 64) (.const (.bool false)), none, 0, false⟩,
 ⟨(some 66), .move (.tmp 65), none, 0, false⟩,
 ⟨(some 67), .move (.tmp 0), (some (66, true)), 0, false⟩,
 ⟨(some 68), .loadN 6 (.tmp 14), (some (66, true)), 0, false⟩,
 ⟨(some 69), .call (.func 221) [(.tmp 67), (.tmp 68)], (some (66, true)), 0, true⟩,
 ⟨(some 60), .loadN 6 (.tmp 14), none, 0, false⟩,
 ⟨none, .store 6 (.tmp 4) (.tmp 60), none, 1, true⟩,
 ⟨(some 70), .pick (.tmp 66) (.tmp 69) (.const (.bool false)), none, 1, false⟩,
 ⟨(some 5), .move (.tmp 70), none, 2, false⟩])
 .ret)))))))))⟩

def L162 : LFunc := ⟨76, [.cellN 6 3, .tmp 7],
 (.seq (.region [⟨(some 6), .alloc [(.int .u64 0), (.int .u32 0), (.slice none 0 0)] 129, none, 0, false⟩,
 ⟨(some 7), .move (.const (.int .i64 0)), none, 0, false⟩])
 (.seq (.region [⟨(some 18), .move (.tmp 0), none, 0, false⟩,
 ⟨(some 19), .nilCheck (.tmp 18), none, 0, false⟩,
 ⟨(some 20), .fieldAddr 0 (.tmp 19), none, 0, false⟩,
 ⟨(some 21), .load1 (.tmp 20), none, 0, false⟩,
 ⟨(some 22), .call (.func 51) [(.tmp 21)], none, 0, false⟩,
 ⟨(some 23), .move (.tmp 1), none, 0, false⟩,
 ⟨(some 24), .call (.func 119) [(.tmp 22), (.tmp 23)], none, 0, false⟩,
 ⟨(some 17), .move (.tmp 24), none, 0, false⟩,
 ⟨(some 25), .extract (.tmp 17) 0, none, 0, false⟩,
 ⟨(some 26), .extract (.tmp 17) 1, none, 0, false⟩,
 ⟨(some 8), .move (.tmp 25), none, 0, false⟩,
 ⟨(some 9), .move (.tmp 26), none, 0, false⟩])
 (.seq (.region [⟨(some 10), .move (.const (.slice none 0 0)), none, 0, false⟩])
 (.seq (.seq (.region [⟨(some 27), .move (.tmp 2), none, 0, false⟩,
 ⟨(some 11), .move (.tmp 27), none, 0, false⟩])
 (.block 0 (.loop (.seq (.seq (.region [⟨(some 28), .move (.tmp 11), none, 0, false⟩,
 ⟨(some 29), .bin .lss (.tmp 28) (.const (.int .i64 16)), none, 0, false⟩])
 (.cond (.tmp 29) .skip
 (.exit 0)))
 (.seq (.block 1 (.seq (.region [⟨(some 33), .move (.tmp 0), none, 0, false⟩,
 ⟨(some 34), .nilCheck (.tmp 33), none, 0, false⟩,
 ⟨(some 35), .fieldAddr 0 (.tmp 34), none, 0, false⟩,
 ⟨(some 36), .load1 (.tmp 35), none, 0, false⟩,
 ⟨(some 37), .move (.tmp 8), none, 0, false⟩,
 ⟨(some 38), .move (.tmp 11), none, 0, false⟩,
 ⟨(some 39), .bin .add (.tmp 37) (.tmp 38), none, 0, false⟩,
 ⟨(some 40), .call (.func 159) [(.tmp 36), (.tmp 39)], none, 0, false⟩,
 ⟨(some 32), .move (.tmp 40), none, 0, false⟩,
 ⟨(some 41), .extract (.tmp 32) 0, none, 0, false⟩,
 ⟨(some 42), .extract (.tmp 32) 1, none, 0, false⟩,
 ⟨(some 12), .alloc [(.int .u8 0), (.int .u8 0), (.int .u8 0), (.int .u8 0), (.int .u8 0), (.int .u8 0), (.int .u8 0), (.int .u8 0), (.int .u8 0), (.int .u8 0), (.int .u8 0), (.int .u8 0), (.int .u8 0), (.int .u8 0), (.int .u8 0), (.int .u8 0), (.int .u8 0), (.int .u8 0), (.int .u8 0), (.int .u8 0), (.int .u8 0), (.int .u8 0), (.int .u8 0), (.int .u8 0), (.int .u8 0), (.int .u8 0), (.int .u8 0), (.int .u8 0), (.int .u8 0), (.int .u8 0), (.int .u8 0), (.int .u8 0), (.int .u8 0), (.int .u8 0), (.int .u8 0), (.int .u8 0), (.int .u8 0), (.int .u8 0), (.int .u8 0), (.int .u8 0), (.int .u8 0), (.int .u8 0), (.int .u8 0), (.int .u8 0), (.int .u8 0), (.int .u8 0), (.int .u8 0), (.int .u8 0), (.int .u8 0), (.int .u8 0), (.int .u8 0), (.int .u8 0), (.int .u8 0), (.int .u8 0), (.int .u8 0), (.int .u8 0), (.int .u8 0), (.int .u8 0), (.int .u8 0), (.int .u8 0), (.int .u8 0), (.int .u8 0), (.int .u8 0), (.int .u8 0)] 214, none, 0, false⟩,
 ⟨none, .store 64 (.tmp 12) (.tmp 41), none, 0, false⟩,
 ⟨(some 13), .move (.tmp 42), none, 0, false⟩])
 (.region [⟨(some 43), .move (.tmp 10), none, 0, false⟩,
 ⟨(some 44), .loadN 64 (.tmp 12), none, 0, false⟩,
 ⟨(some 45), .buildSlice 1 64 214 [(.int .u8 0), (.int .u8 0), (.int .u8 0), (.int .u8 0), (.int .u8 0), (.int .u8 0), (.int .u8 0), (.int .u8 0), (.int .u8 0), (.int .u8 0), (.int .u8 0), (.int .u8 0), (.int .u8 0), (.int .u8 0), (.int .u8 0), (.int .u8 0), (.int .u8 0), (.int .u8 0), (.int .u8 0), (.int .u8 0), (.int .u8 0), (.int .u8 0), (.int .u8 0), (.int .u8 0), (.int .u8 0), (.int .u8 0), (.int .u8 0), (.int .u8 0), (.int .u8 0), (.int .u8 0), (.int .u8 0), (.int .u8 0), (.int .u8 0), (.int .u8 0), (.int .u8 0), (.int .u8 0), (.int .u8 0), (.int .u8 0), (.int .u8 0), (.int .u8 0), (.int .u8 0), (.int .u8 0), (.int .u8 0), (.int .u8 0), (.int .u8 0), (.int .u8 0), (.int .u8 0), (.int .u8 0), (.int .u8 0), (.int .u8 0), (.int .u8 0), (.int .u8 0), (.int .u8 0), (.int .u8 0), (.int .u8 0), (.int .u8 0), (.int .u8 0), (.int .u8 0), (.int .u8 0), (.int .u8 0), (.int .u8 0), (.int .u8 0), (.int .u8 0), (.int .u8 0)] [(0, 64, (.tmp 44))], none, 0, false⟩,
 ⟨(some 46), .append 64 64 214 [(.int .u8 0), (.int .u8 0), (.int .u8 0), (.int .u8 0), (.int .u8 0), (.int .u8 0), (.int .u8 0), (.int .u8 0), (.int .u8 0), (.int .u8 0), (.int .u8 0), (.int .u8 0), (.int .u8 0), (.int .u8 0), (.int .u8 0), (.int .u8 0), (.int .u8 0), (.int .u8 0), (.int .u8 0), (.int .u8 0), (.int .u8 0), (.int .u8 0), (.int .u8 0), (.int .u8 0), (.int .u8 0), (.int .u8 0), (.int .u8 0), (.int .u8 0), (.int .u8 0), (.int .u8 0), (.int .u8 0), (.int .u8 0), (.int .u8 0), (.int .u8 0), (.int .u8 0), (.int .u8 0), (.int .u8 0), (.int .u8 0), (.int .u8 0), (.int .u8 0), (.int .u8 0), (.int .u8 0), (.int .u8 0), (.int .u8 0), (.int .u8 0), (.int .u8 0), (.int .u8 0), (.int .u8 0), (.int .u8 0), (.int .u8 0), (.int .u8 0), (.int .u8 0), (.int .u8 0), (.int .u8 0), (.int .u8 0), (.int .u8 0), (.int .u8 0), (.int .u8 0), (.int .u8 0), (.int .u8 0), (.int .u8 0), (.int .u8 0), (.int .u8 0), (.int .u8 0)] false (.tmp 43) (.tmp 45), none, 0, false⟩,
 ⟨(some 10), .move (.tmp 46), none, 0, false⟩])))
 (.region [⟨(some 30), .move (.tmp 11), none, 0, false⟩,
 ⟨(some 31), .bin .add (.tmp 30) (.const (.int .i64 1)), none, 0, false⟩,
 ⟨(some 11), .move (.tmp 31), none, 0, false⟩]))))))
 (.seq (.region [⟨(some 48), .move (.tmp 10), none, 0, false⟩,
 ⟨(some 49), .call (.func 160) [(.tmp 48)], none, 0, false⟩,
 ⟨(some 47), .move (.tmp 49), none, 0, false⟩,
 ⟨(some 50), .extract (.tmp 47) 0, none, 0, false⟩,
 ⟨(some 51), .extract (.tmp 47) 1, none, 0, false⟩,
 ⟨(some 52), .extract (.tmp 47) 2, none, 0, false⟩,
 ⟨(some 14), .alloc [(.int .u64 0), (.int .u32 0), (.slice none 0 0)] 129, none, 0, false⟩,
 ⟨none, .store 3 (.tmp 14) (.tmp 50), none, 0, false⟩,
 ⟨(some 15), .move (.tmp 51), none, 0, false⟩,
 ⟨(some 16), .move (.tmp 52), none, 0, false⟩])
 (.seq (.seq (.draw [⟨(some 53), .move (.tmp 16), none, 0, false⟩,
 ⟨(some 54), .un .not (.tmp 53), none, 0, false⟩,
 ⟨(some 55), .move (.tmp 54), none, 0, false⟩,
 ⟨(some 56), .fieldAddr 0 (.tmp 14), (some (55, false)), 0, false⟩,
 ⟨(some 57), .load1 (.tmp 56), (some (55, false)), 0, false⟩,
 ⟨(some 58), .move (.tmp 0), (some (55, false)), 0, false⟩,
 ⟨(some 59), .nilCheck (.tmp 58), (some (55, false)), 0, false⟩,
 ⟨(some 60), .fieldAddr 2 (.tmp 59), (some (55, false)), 0, false⟩,
 ⟨(some 61), .load1 (.tmp 60), (some (55, false)), 0, false⟩,
 ⟨(some 62), .bin .neq (.tmp 57) (.tmp 61), (some (55, false)), 0, false⟩,
 ⟨(some 63), .pick (.tmp 55) (.const (.bool true)) (.tmp 62), none, 0, false⟩,
 ⟨(some 64), .move (.tmp 63), none, 0, false⟩,
 ⟨(some 65), .fieldAddr 1 (.tmp 14), (some (64, false)), 0, false⟩,
 ⟨(some 66), .load1 (.tmp 65), (some (64, false)), 0, false⟩,
 ⟨(some 67), .move (.tmp 0), (some (64, false)), 0, false⟩,
 ⟨(some 68), .nilCheck (.tmp 67), (some (64, false)), 0, false⟩,
 ⟨(some 69), .fieldAddr 1 (.tmp 68), (some (64, false)), 0, false⟩,
 ⟨(some 70), .load1 (.tmp 69), (some (64, false)), 0, false⟩,
 ⟨(some 71), .bin .neq (.tmp 66) (.tmp 70), (some (64, false)), 0, false⟩,
 ⟨(some 72), .pick (.tmp 64) (.const (.bool true)) (.tmp 71), none, 0, false⟩])
 (.cond (.tmp 72) (.seq (.region [⟨(some 73), .build [(.int .u64 0), (.int .u32 0), (.slice none 0 0)] [], none, 0, false⟩,
 ⟨none, .store 3 (.tmp 6) (.tmp 73), none, 0, false⟩,
 ⟨(some 7), .move (.const (.int .i64 0)), none, 0, false⟩])
 .ret)
 .skip))
 (.seq (.region [⟨(some 74), .loadN 3 (.tmp 14), none, 0, false⟩,
 ⟨(some 75), .move (.tmp 15), none, 0, false⟩,
 ⟨none, .store 3 (.tmp 6) (.tmp 74), none, 0, false⟩,
 ⟨(some 7), .move (.tmp 75), none, 0, false⟩])
 .ret)))))))⟩

def L163 : LFunc := ⟨18, [.tmp 4],
 (.seq (.region [⟨(some 4), .move (.const (.int .i64 0)), none, 0, false⟩])
 (.seq (.region [⟨(some 8), .move (.tmp 0), none, 0, false⟩,
 ⟨(some 9), .nilCheck (.tmp 8), none, 0, false⟩,
 ⟨(some 10), .fieldAddr 0 (.tmp 9), none, 0, false⟩,
 ⟨(some 11), .load1 (.tmp 10), none, 0, false⟩,
 ⟨(some 12), .call (.func 51) [(.tmp 11)], none, 0, false⟩,
 ⟨(some 13), .move (.tmp 1), none, 0, false⟩,
 ⟨(some 14), .call (.func 111) [(.tmp 12), (.tmp 13)], none, 0, false⟩,
 ⟨(some 7), .move (.tmp 14), none, 0, false⟩,
 ⟨(some 15), .extract (.tmp 7) 0, none, 0, false⟩,
 ⟨(some 16), .extract (.tmp 7) 1, none, 0, false⟩,
 ⟨(some 5), .move (.tmp 15), none, 0, false⟩,
 ⟨(some 6), .move (.tmp 16), none, 0, false⟩])
 (.seq (.region [⟨(some 17), .move (.tmp 5), none, 0, false⟩,
 ⟨(some 4), .move (.tmp 17), none, 0, false⟩])
 .ret)))⟩

def L164 : LFunc := ⟨50, [.tmp 2, .tmp 3, .tmp 4],
 (.seq (.region [⟨(some 2), .move (.const (.int .u64 0)), none, 0, false⟩,
 ⟨(some 3), .move (.const (.int .i64 0)), none, 0, false⟩,
 ⟨(some 4), .move (.const (.int .i64 0)), none, 0, false⟩])
 (.seq (.region [⟨(some 5), .move (.const (.int .u64 0)), none, 0, false⟩])
 (.seq (.seq (.region [⟨(some 9), .move (.tmp 0), none, 0, false⟩,
 ⟨(some 10), .move (.tmp 0), none, 0, false⟩,
 ⟨(some 11), .len false (.tmp 10), none, 0, false⟩,
 ⟨(some 12), .min [(.tmp 11), (.const (.int .i64 10))], none, 0, false⟩,
 ⟨(some 13), .slice 1 (.tmp 9) none (some (.tmp 12)) none, none, 0, false⟩,
 ⟨(some 14), .len false (.tmp 13), none, 0, false⟩,
 ⟨(some 15), .move (.const (.int .i64 0)), none, 0, false⟩])
 (.block 0 (.loop (.seq (.region [⟨(some 16), .bin .lss (.tmp 15) (.tmp 14), none, 0, false⟩])
 (.seq (.cond (.tmp 16) .skip
 (.exit 0))
 (.seq (.block 1 (.seq (.region [⟨(some 17), .move (.tmp 15), none, 0, false⟩,
 ⟨(some 18), .indexAddr 1 (.tmp 13) (.tmp 15), none, 0, false⟩,
 ⟨(some 19), .load1 (.tmp 18), none, 0, false⟩,
 ⟨(some 6), .move (.tmp 17), none, 0, false⟩,
 ⟨(some 7), .move (.tmp 19), none, 0, false⟩])
 (.seq (.region [⟨(some 20), .move (.tmp 7), none, 0, false⟩,
 ⟨(some 21), .bin .and (.tmp 20) (.const (.int .u8 127)), none, 0, false⟩,
 ⟨(some 22), .conv (.int .u64) (.tmp 21), none, 0, false⟩,
 ⟨(some 8), .move (.tmp 22), none, 0, false⟩])
 (.seq (.seq (.region [⟨(some 23), .move (.tmp 8), none, 0, false⟩,
 ⟨(some 24), .move (.tmp 6), none, 0, false⟩,
 ⟨(some 25), .bin .mul (.const (.int .i64 7)) (.tmp 24), none, 0, false⟩,
 ⟨(some 26), .bin .shl (.tmp 23) (.tmp 25), none, 0, false⟩,
 ⟨(some 27), .move (.tmp 6), none, 0, false⟩,
 ⟨(some 28), .bin .mul (.const (.int .i64 7)) (.tmp 27), none, 0, false⟩,
 ⟨(some 29), .bin .shr (.tmp 26) (.tmp 28), none, 0, false⟩,
 ⟨(some 30), .move (.tmp 8), none, 0, false⟩,
 ⟨(some 31), .bin .neq (.tmp 29) (.tmp 30), none, 0, false⟩])
 (.cond (.tmp 31) (.exit 0)
 .skip))
 (.seq (.region [⟨(some 32), .move (.tmp 5), none, 0, false⟩,
 ⟨(some 33), .move (.tmp 8), none, 0, false⟩,
 ⟨(some 34), .move (.tmp 6), none, 0, false⟩,
 ⟨(some 35), .bin .mul (.const (.int .i64 7)) (.tmp 34), none, 0, false⟩,
 ⟨(some 36), .bin .shl (.tmp 33) (.tmp 35), none, 0, false⟩,
 ⟨(some 37), .bin .or (.tmp 32) (.tmp 36), none, 0, false⟩,
 ⟨(some 5), .move (.tmp 37), none, 0, false⟩])
 (.seq (.seq (.region [⟨(some 38), .move (.tmp 7), none, 0, false⟩,
 ⟨(some 39), .bin .and (.tmp 38) (.const (.int .u8 128)), none, 0, false⟩,
 ⟨(some 40), .bin .neq (.tmp 39) (.const (.int .u8 0)), none, 0, false⟩])
 (.cond (.tmp 40) (.exit 1)
 .skip))
 (.seq (.seq (.region [⟨(some 41), .move (.tmp 5), none, 0, false⟩,
 ⟨(some 42), .call (.func 229) [(.tmp 41)], none, 0, false⟩,
 ⟨(some 43), .move (.tmp 6), none, 0, false⟩,
 ⟨(some 44), .bin .add (.tmp 43) (.const (.int .i64 1)), none, 0, false⟩,
 ⟨(some 45), .bin .neq (.tmp 42) (.tmp 44), none, 0, false⟩])
 (.cond (.tmp 45) (.exit 0)
 .skip))
 (.seq (.region [⟨(some 46), .move (.tmp 5), none, 0, false⟩,
 ⟨(some 47), .move (.tmp 6), none, 0, false⟩,
 ⟨(some 48), .bin .add (.tmp 47) (.const (.int .i64 1)), none, 0, false⟩,
 ⟨(some 2), .move (.tmp 46), none, 0, false⟩,
 ⟨(some 3), .move (.tmp 48), none, 0, false⟩,
 ⟨(some 4), .move (.const (.int .i64 0)), none, 0, false⟩])
 .ret))))))))
 (.region [⟨(some 49), .bin .add (.tmp 15) (.const (.int .i64 1)), none, 0, false⟩,
 ⟨(some 15), .move (.tmp 49), none, 0, false⟩])))))))
 (.seq (.region [⟨(some 2), .move (.const (.int .u64 0)), none, 0, false⟩,
 ⟨(some 3), .move (.const (.int .i64 0)), none, 0, false⟩,
 ⟨(some 4), .move (.const (.int .i64 21)), none, 0, false⟩])
 .ret))))⟩

def L165 : LFunc := ⟨9, [.tmp 4],
 (.seq (.region [⟨(some 2), .box 1 202 (.tmp 0), none, 0, false⟩,
 ⟨(some 3), .box 1 3 (.tmp 1), none, 0, false⟩,
 ⟨(some 4), .move (.const .nilFunc), none, 0, false⟩])
 (.seq (.seq (.region [⟨(some 5), .load1 (.tmp 3), none, 0, false⟩,
 ⟨(some 6), .bin .lss (.tmp 5) (.const (.int .i64 1)), none, 0, false⟩])
 (.cond (.tmp 6) (.region [⟨(some 7), .mkIface 9 (.const (.string ⟨⟨[99, 97, 110, 110, 111, 116, 32, 98, 101, 32, 108, 101, 115, 115, 32, 116, 104, 97, 110, 32, 49]⟩⟩)), none, 0, false⟩,
 ⟨none, .bad, none, 0, false⟩])
 .skip))
 (.seq (.region [⟨(some 8), .mkFunc (.func 230) [] [(.tmp 2), (.tmp 3)], none, 0, false⟩,
 ⟨(some 4), .move (.tmp 8), none, 0, false⟩])
 .ret)))⟩

def L166 : LFunc := ⟨76, [.cellN 2 13, .tmp 3],
 (.seq (.region [⟨(some 2), .alloc [(.int .i64 0), (.int .u8 0), (.int .u8 0), (.int .u8 0), (.int .u8 0), (.int .i64 0), (.int .u64 0), (.int .u64 0), (.int .u64 0), (.int .u64 0), (.int .u64 0), (.int .u64 0), (.int .u64 0)] 42, none, 0, false⟩,
 ⟨(some 3), .move (.const (.int .i64 0)), none, 0, false⟩])
 (.seq (.seq (.region [⟨(some 9), .move (.tmp 0), none, 0, false⟩,
 ⟨(some 10), .len false (.tmp 9), none, 0, false⟩,
 ⟨(some 11), .bin .neq (.tmp 10) (.const (.int .i64 10)), none, 0, false⟩,
 ⟨(some 12), .move (.tmp 11), none, 0, false⟩,
 ⟨(some 13), .move (.tmp 0), (some (12, false)), 0, false⟩,
 ⟨(some 14), .indexAddr 1 (.tmp 13) (.const (.int .i64 1)), (some (12, false)), 0, false⟩,
 ⟨(some 15), .load1 (.tmp 14), (some (12, false)), 0, false⟩,
 ⟨(some 16), .bin .gtr (.tmp 15) (.const (.int .u64 4294967295)), (some (12, false)), 0, false⟩,
 ⟨(some 17), .pick (.tmp 12) (.const (.bool true)) (.tmp 16), none, 0, false⟩])
 (.cond (.tmp 17) (.seq (.region [⟨(some 18), .build [(.int .i64 0), (.int .u8 0), (.int .u8 0), (.int .u8 0), (.int .u8 0), (.int .i64 0), (.int .u64 0), (.int .u64 0), (.int .u64 0), (.int .u64 0), (.int .u64 0), (.int .u64 0), (.int .u64 0)] [], none, 0, false⟩,
 ⟨none, .store 13 (.tmp 2) (.tmp 18), none, 0, false⟩,
 ⟨(some 3), .move (.const (.int .i64 111)), none, 0, false⟩])
 .ret)
 .skip))
 (.seq (.region [⟨(some 20), .move (.tmp 0), none, 0, false⟩,
 ⟨(some 21), .indexAddr 1 (.tmp 20) (.const (.int .i64 0)), none, 0, false⟩,
 ⟨(some 22), .load1 (.tmp 21), none, 0, false⟩,
 ⟨(some 23), .call (.func 106) [(.tmp 22)], none, 0, false⟩,
 ⟨(some 19), .move (.tmp 23), none, 0, false⟩,
 ⟨(some 24), .extract (.tmp 19) 0, none, 0, false⟩,
 ⟨(some 25), .extract (.tmp 19) 1, none, 0, false⟩,
 ⟨(some 4), .move (.tmp 24), none, 0, false⟩,
 ⟨(some 5), .move (.tmp 25), none, 0, false⟩])
 (.seq (.region [⟨(some 27), .move (.tmp 0), none, 0, false⟩,
 ⟨(some 28), .indexAddr 1 (.tmp 27) (.const (.int .i64 2)), none, 0, false⟩,
 ⟨(some 29), .load1 (.tmp 28), none, 0, false⟩,
 ⟨(some 30), .call (.func 106) [(.tmp 29)], none, 0, false⟩,
 ⟨(some 26), .move (.tmp 30), none, 0, false⟩,
 ⟨(some 31), .extract (.tmp 26) 0, none, 0, false⟩,
 ⟨(some 32), .extract (.tmp 26) 1, none, 0, false⟩,
 ⟨(some 6), .move (.tmp 31), none, 0, false⟩,
 ⟨(some 7), .move (.tmp 32), none, 0, false⟩])
 (.seq (.draw [⟨(some 34), .move (.tmp 0), none, 0, false⟩,
 ⟨(some 35), .indexAddr 1 (.tmp 34) (.const (.int .i64 1)), none, 0, false⟩,
 ⟨(some 36), .load1 (.tmp 35), none, 0, false⟩,
 ⟨(some 37), .conv (.int .u32) (.tmp 36), none, 0, false⟩,
 ⟨(some 38), .call (.func 198) [(.tmp 37)], none, 0, true⟩,
 ⟨(some 33), .move (.tmp 4), none, 0, false⟩,
 ⟨(some 39), .move (.tmp 6), none, 0, false⟩,
 ⟨(some 40), .build [(.int .u8 0), (.int .u8 0), (.int .u8 0), (.int .u8 0), (.int .i64 0)] [(0, 4, (.tmp 38)), (4, 1, (.tmp 39))], none, 1, false⟩,
 ⟨(some 41), .move (.tmp 0), none, 0, false⟩,
 ⟨(some 42), .indexAddr 1 (.tmp 41) (.const (.int .i64 3)), none, 0, false⟩,
 ⟨(some 43), .load1 (.tmp 42), none, 0, false⟩,
 ⟨(some 44), .move (.tmp 0), none, 0, false⟩,
 ⟨(some 45), .indexAddr 1 (.tmp 44) (.const (.int .i64 4)), none, 0, false⟩,
 ⟨(some 46), .load1 (.tmp 45), none, 0, false⟩,
 ⟨(some 47), .move (.tmp 0), none, 0, false⟩,
 ⟨(some 48), .indexAddr 1 (.tmp 47) (.const (.int .i64 5)), none, 0, false⟩,
 ⟨(some 49), .load1 (.tmp 48), none, 0, false⟩,
 ⟨(some 50), .move (.tmp 0), none, 0, false⟩,
 ⟨(some 51), .indexAddr 1 (.tmp 50) (.const (.int .i64 6)), none, 0, false⟩,
 ⟨(some 52), .load1 (.tmp 51), none, 0, false⟩,
 ⟨(some 53), .move (.tmp 0), none, 0, false⟩,
 ⟨(some 54), .indexAddr 1 (.tmp 53) (.const (.int .i64 7)), none, 0, false⟩,
 ⟨(some 55), .load1 (.tmp 54), none, 0, false⟩,
 ⟨(some 56), .move (.tmp 0), none, 0, false⟩,
 ⟨(some 57), .indexAddr 1 (.tmp 56) (.const (.int .i64 8)), none, 0, false⟩,
 ⟨(some 58), .load1 (.tmp 57), none, 0, false⟩,
 ⟨(some 59), .move (.tmp 0), none, 0, false⟩,
 ⟨(some 60), .indexAddr 1 (.tmp 59) (.const (.int .i64 9)), none, 0, false⟩,
 ⟨(some 61), .load1 (.tmp 60), none, 0, false⟩,
 ⟨(some 62), .build [(.int .i64 0), (.int .u8 0), (.int .u8 0), (.int .u8 0), (.int .u8 0), (.int .i64 0), (.int .u64 0), (.int .u64 0), (.int .u64 0), (.int .u64 0), (.int .u64 0), (.int .u64 0), (.int .u64 0)] [(0, 1, (.tmp 33)), (1, 5, (.tmp 40)), (6, 1, (.tmp 43)), (7, 1, (.tmp 46)), (8, 1, (.tmp 49)), (9, 1, (.tmp 52)), (10, 1, (.tmp 55)), (11, 1, (.tmp 58)), (12, 1, (.tmp 61))], none, 1, false⟩,
 ⟨(some 8), .alloc [(.int .i64 0), (.int .u8 0), (.int .u8 0), (.int .u8 0), (.int .u8 0), (.int .i64 0), (.int .u64 0), (.int .u64 0), (.int .u64 0), (.int .u64 0), (.int .u64 0), (.int .u64 0), (.int .u64 0)] 42, none, 0, false⟩,
 ⟨none, .store 13 (.tmp 8) (.tmp 62), none, 1, true⟩])
 (.seq (.seq (.region [⟨(some 63), .move (.tmp 5), none, 0, false⟩,
 ⟨(some 64), .un .not (.tmp 63), none, 0, false⟩,
 ⟨(some 65), .move (.tmp 64), none, 0, false⟩,
 ⟨(some 66), .move (.tmp 7), (some (65, false)), 0, false⟩,
 ⟨(some 67), .un .not (.tmp 66), (some (65, false)), 0, false⟩,
 ⟨(some 68), .pick (.tmp 65) (.const (.bool true)) (.tmp 67), none, 0, false⟩,
 ⟨(some 69), .move (.tmp 68), none, 0, false⟩,
 ⟨(some 70), .loadN 13 (.tmp 8), (some (69, false)), 0, false⟩,
 ⟨(some 71), .call (.func 125) [(.tmp 70)], (some (69, false)), 0, false⟩,
 ⟨(some 72), .un .not (.tmp 71), (some (69, false)), 0, false⟩,
 ⟨(some 73), .pick (.tmp 69) (.const (.bool true)) (.tmp 72), none, 0, false⟩])
 (.cond (.tmp 73) (.seq (.region [⟨(some 74), .build [(.int .i64 0), (.int .u8 0), (.int .u8 0), (.int .u8 0), (.int .u8 0), (.int .i64 0), (.int .u64 0), (.int .u64 0), (.int .u64 0), (.int .u64 0), (.int .u64 0), (.int .u64 0), (.int .u64 0)] [], none, 0, false⟩,
 ⟨none, .store 13 (.tmp 2) (.tmp 74), none, 0, false⟩,
 ⟨(some 3), .move (.const (.int .i64 111)), none, 0, false⟩])
 .ret)
 .skip))
 (.seq (.region [⟨(some 75), .loadN 13 (.tmp 8), none, 0, false⟩,
 ⟨none, .store 13 (.tmp 2) (.tmp 75), none, 0, false⟩,
 ⟨(some 3), .move (.const (.int .i64 0)), none, 0, false⟩])
 .ret)))))))⟩

def L167 : LFunc := ⟨50, [.tmp 2],
 (.seq (.region [⟨(some 2), .move (.const (.int .i64 0)), none, 0, false⟩])
 (.seq (.seq (.region [⟨(some 6), .move (.tmp 0), none, 0, false⟩,
 ⟨(some 7), .len false (.tmp 6), none, 0, false⟩,
 ⟨(some 8), .bin .gtr (.tmp 7) (.const (.int .i64 8)), none, 0, false⟩])
 (.cond (.tmp 8) (.seq (.region [⟨(some 2), .move (.const (.int .i64 111)), none, 0, false⟩])
 .ret)
 .skip))
 (.seq (.region [⟨(some 9), .mkMap, none, 0, false⟩,
 ⟨(some 3), .move (.tmp 9), none, 0, false⟩])
 (.seq (.seq (.region [⟨(some 10), .move (.tmp 0), none, 0, false⟩,
 ⟨(some 11), .len false (.tmp 10), none, 0, false⟩,
 ⟨(some 12), .move (.const (.int .i64 0)), none, 0, false⟩])
 (.block 0 (.loop (.seq (.region [⟨(some 13), .bin .lss (.tmp 12) (.tmp 11), none, 0, false⟩])
 (.seq (.cond (.tmp 13) .skip
 (.exit 0))
 (.seq (.block 1 (.seq (.region [⟨(some 14), .move (.tmp 12), none, 0, false⟩,
 ⟨(some 15), .indexAddr 13 (.tmp 10) (.tmp 12), none, 0, false⟩,
 ⟨(some 16), .loadN 13 (.tmp 15), none, 0, false⟩,
 ⟨(some 5), .alloc [(.int .i64 0), (.int .u8 0), (.int .u8 0), (.int .u8 0), (.int .u8 0), (.int .i64 0), (.int .u64 0), (.int .u64 0), (.int .u64 0), (.int .u64 0), (.int .u64 0), (.int .u64 0), (.int .u64 0)] 42, none, 0, false⟩,
 ⟨(some 4), .move (.tmp 14), none, 0, false⟩,
 ⟨none, .store 13 (.tmp 5) (.tmp 16), none, 0, false⟩])
 (.seq (.draw [⟨(some 17), .move (.tmp 3), none, 0, false⟩,
 ⟨(some 18), .fieldAddr 1 (.tmp 5), none, 0, false⟩,
 ⟨(some 19), .loadN 5 (.tmp 18), none, 0, false⟩,
 ⟨(some 22), .mapEntry (.agg 5 [(0, .n), (1, .n), (2, .n), (3, .n), (4, .n)]) (.int .i64 0) (.tmp 17) (.tmp 19), none, 0, true⟩,
 ⟨(some 20), .lookup (.agg 5 [(0, .n), (1, .n), (2, .n), (3, .n), (4, .n)]) (.int .i64 0) false (.tmp 17) (.tmp 19), none, 0, false⟩,
 ⟨(some 21), .bin .add (.tmp 20) (.const (.int .i64 1)), none, 0, false⟩,
 ⟨(some 23), .extract (.tmp 22) 1, none, 1, false⟩,
 ⟨none, .entryStore (.tmp 17) (.tmp 23) (.tmp 21), none, 1, true⟩])
 (.seq (.draw [⟨(some 24), .loadN 13 (.tmp 5), none, 0, false⟩,
 ⟨(some 25), .call (.func 125) [(.tmp 24)], none, 0, true⟩,
 ⟨(some 26), .un .not (.tmp 25), none, 1, false⟩,
 ⟨(some 27), .move (.tmp 26), none, 1, false⟩,
 ⟨(some 28), .move (.tmp 3), (some (27, false)), 1, false⟩,
 ⟨(some 29), .fieldAddr 1 (.tmp 5), (some (27, false)), 1, false⟩,
 ⟨(some 30), .loadN 5 (.tmp 29), (some (27, false)), 1, false⟩,
 ⟨(some 31), .lookup (.agg 5 [(0, .n), (1, .n), (2, .n), (3, .n), (4, .n)]) (.int .i64 0) false (.tmp 28) (.tmp 30), (some (27, false)), 1, false⟩,
 ⟨(some 32), .bin .gtr (.tmp 31) (.const (.int .i64 1)), (some (27, false)), 1, false⟩,
 ⟨(some 33), .pick (.tmp 27) (.const (.bool true)) (.tmp 32), none, 1, false⟩,
 ⟨(some 34), .move (.tmp 33), none, 1, false⟩,
 ⟨(some 35), .move (.tmp 4), (some (34, false)), 1, false⟩,
 ⟨(some 36), .bin .gtr (.tmp 35) (.const (.int .i64 0)), (some (34, false)), 1, false⟩,
 ⟨(some 37), .move (.tmp 36), (some (34, false)), 1, false⟩,
 ⟨(some 38), .fieldAddr 0 (.tmp 5), (some (37, true)), 1, false⟩,
 ⟨(some 39), .load1 (.tmp 38), (some (37, true)), 1, false⟩,
 ⟨(some 40), .move (.tmp 0), (some (37, true)), 1, false⟩,
 ⟨(some 41), .move (.tmp 4), (some (37, true)), 1, false⟩,
 ⟨(some 42), .bin .sub (.tmp 41) (.const (.int .i64 1)), (some (37, true)), 1, false⟩,
 ⟨(some 43), .indexAddr 13 (.tmp 40) (.tmp 42), (some (37, true)), 1, false⟩,
 ⟨(some 44), .fieldAddr 0 (.tmp 43), (some (37, true)), 1, false⟩,
 ⟨(some 45), .load1 (.tmp 44), (some (37, true)), 1, false⟩,
 ⟨(some 46), .bin .leq (.tmp 39) (.tmp 45), (some (37, true)), 1, false⟩,
 ⟨(some 47), .pick (.tmp 37) (.tmp 46) (.const (.bool false)), (some (34, false)), 1, false⟩,
 ⟨(some 48), .pick (.tmp 34) (.const (.bool true)) (.tmp 47), none, 1, false⟩])
 (.cond (.tmp 48) (.seq (.region [⟨(some 2), .move (.const (.int .i64 111)), none, 0, false⟩])
 .ret)
 .skip)))))
 (.region [⟨(some 49), .bin .add (.tmp 12) (.const (.int .i64 1)), none, 0, false⟩,
 ⟨(some 12), .move (.tmp 49), none, 0, false⟩])))))))
 (.seq (.region [⟨(some 2), .move (.const (.int .i64 0)), none, 0, false⟩])
 .ret)))))⟩

def L168 : LFunc := ⟨38, [.tmp 4],
 (.seq (.region [⟨(some 2), .box 1 56 (.tmp 0), none, 0, false⟩,
 ⟨(some 4), .move (.const (.bool false)), none, 0, false⟩])
 (.seq (.seq (.region [⟨(some 7), .load1 (.tmp 2), none, 0, false⟩,
 ⟨(some 8), .len false (.tmp 7), none, 0, false⟩,
 ⟨(some 9), .bin .gtr (.tmp 8) (.const (.int .i64 8)), none, 0, false⟩])
 (.cond (.tmp 9) (.seq (.region [⟨(some 4), .move (.const (.bool false)), none, 0, false⟩])
 .ret)
 .skip))
 (.seq (.seq (.region [⟨(some 10), .load1 (.tmp 2), none, 0, false⟩,
 ⟨(some 11), .len false (.tmp 10), none, 0, false⟩,
 ⟨(some 12), .move (.const (.int .i64 0)), none, 0, false⟩])
 (.block 0 (.loop (.seq (.region [⟨(some 13), .bin .lss (.tmp 12) (.tmp 11), none, 0, false⟩])
 (.seq (.cond (.tmp 13) .skip
 (.exit 0))
 (.seq (.block 1 (.seq (.region [⟨(some 14), .move (.tmp 12), none, 0, false⟩,
 ⟨(some 15), .indexAddr 1 (.tmp 10) (.tmp 12), none, 0, false⟩,
 ⟨(some 16), .load1 (.tmp 15), none, 0, false⟩,
 ⟨(some 5), .move (.tmp 14), none, 0, false⟩,
 ⟨(some 6), .move (.tmp 16), none, 0, false⟩])
 (.seq (.region [⟨(some 17), .move (.tmp 6), none, 0, false⟩,
 ⟨(some 18), .call (.func 170) [(.tmp 17)], none, 0, false⟩,
 ⟨(some 19), .un .not (.tmp 18), none, 0, false⟩,
 ⟨(some 20), .move (.tmp 19), none, 0, false⟩,
 ⟨(some 21), .move (.tmp 5), (some (20, false)), 0, false⟩,
 ⟨(some 22), .bin .gtr (.tmp 21) (.const (.int .i64 0)), (some (20, false)), 0, false⟩,
 ⟨(some 23), .move (.tmp 22), (some (20, false)), 0, false⟩,
 ⟨(some 24), .move (.tmp 6), (some (23, true)), 0, false⟩,
 ⟨(some 25), .load1 (.tmp 2), (some (23, true)), 0, false⟩,
 ⟨(some 26), .move (.tmp 5), (some (23, true)), 0, false⟩,
 ⟨(some 27), .bin .sub (.tmp 26) (.const (.int .i64 1)), (some (23, true)), 0, false⟩,
 ⟨(some 28), .indexAddr 1 (.tmp 25) (.tmp 27), (some (23, true)), 0, false⟩,
 ⟨(some 29), .load1 (.tmp 28), (some (23, true)), 0, false⟩,
 ⟨(some 30), .bin .leq (.tmp 24) (.tmp 29), (some (23, true)), 0, false⟩,
 ⟨(some 31), .pick (.tmp 23) (.tmp 30) (.const (.bool false)), (some (20, false)), 0, false⟩,
 ⟨(some 32), .pick (.tmp 20) (.const (.bool true)) (.tmp 31), none, 0, false⟩])
 (.cond (.tmp 32) (.seq (.region [⟨(some 4), .move (.const (.bool false)), none, 0, false⟩])
 .ret)
 .skip))))
 (.region [⟨(some 33), .bin .add (.tmp 12) (.const (.int .i64 1)), none, 0, false⟩,
 ⟨(some 12), .move (.tmp 33), none, 0, false⟩])))))))
 (.seq (.region [⟨(some 34), .move (.tmp 1), none, 0, false⟩,
 ⟨(some 35), .mkFunc (.func 232) [] [(.tmp 2)], none, 0, false⟩,
 ⟨(some 36), .call (.func 231) [(.tmp 34), (.tmp 35)], none, 0, false⟩,
 ⟨(some 37), .un .not (.tmp 36), none, 0, false⟩,
 ⟨(some 4), .move (.tmp 37), none, 0, false⟩])
 .ret))))⟩

def L169 : LFunc := ⟨45, [.tmp 4],
 (.seq (.region [⟨(some 2), .box 6 89 (.tmp 0), none, 0, false⟩,
 ⟨(some 3), .box 6 89 (.tmp 1), none, 0, false⟩,
 ⟨(some 4), .move (.const (.bool false)), none, 0, false⟩])
 (.seq (.region [⟨(some 5), .fieldAddr 0 (.tmp 2), none, 0, false⟩,
 ⟨(some 6), .load1 (.tmp 5), none, 0, false⟩,
 ⟨(some 7), .fieldAddr 0 (.tmp 3), none, 0, false⟩,
 ⟨(some 8), .load1 (.tmp 7), none, 0, false⟩,
 ⟨(some 9), .bin .eql (.tmp 6) (.tmp 8), none, 0, false⟩,
 ⟨(some 10), .move (.tmp 9), none, 0, false⟩,
 ⟨(some 11), .fieldAddr 1 (.tmp 2), (some (10, true)), 0, false⟩,
 ⟨(some 12), .load1 (.tmp 11), (some (10, true)), 0, false⟩,
 ⟨(some 13), .fieldAddr 1 (.tmp 3), (some (10, true)), 0, false⟩,
 ⟨(some 14), .load1 (.tmp 13), (some (10, true)), 0, false⟩,
 ⟨(some 15), .bin .eql (.tmp 12) (.tmp 14), (some (10, true)), 0, false⟩,
 ⟨(some 16), .pick (.tmp 10) (.tmp 15) (.const (.bool false)), none, 0, false⟩,
 ⟨(some 17), .move (.tmp 16), none, 0, false⟩,
 ⟨(some 18), .fieldAddr 4 (.tmp 2), (some (17, true)), 0, false⟩,
 ⟨(some 19), .load1 (.tmp 18), (some (17, true)), 0, false⟩,
 ⟨(some 20), .fieldAddr 4 (.tmp 3), (some (17, true)), 0, false⟩,
 ⟨(some 21), .load1 (.tmp 20), (some (17, true)), 0, false⟩,
 ⟨(some 22), .bin .eql (.tmp 19) (.tmp 21), (some (17, true)), 0, false⟩,
 ⟨(some 23), .pick (.tmp 17) (.tmp 22) (.const (.bool false)), none, 0, false⟩,
 ⟨(some 24), .move (.tmp 23), none, 0, false⟩,
 ⟨(some 25), .fieldAddr 5 (.tmp 2), (some (24, true)), 0, false⟩,
 ⟨(some 26), .load1 (.tmp 25), (some (24, true)), 0, false⟩,
 ⟨(some 27), .fieldAddr 5 (.tmp 3), (some (24, true)), 0, false⟩,
 ⟨(some 28), .load1 (.tmp 27), (some (24, true)), 0, false⟩,
 ⟨(some 29), .bin .eql (.tmp 26) (.tmp 28), (some (24, true)), 0, false⟩,
 ⟨(some 30), .pick (.tmp 24) (.tmp 29) (.const (.bool false)), none, 0, false⟩,
 ⟨(some 31), .move (.tmp 30), none, 0, false⟩,
 ⟨(some 32), .fieldAddr 2 (.tmp 2), (some (31, true)), 0, false⟩,
 ⟨(some 33), .load1 (.tmp 32), (some (31, true)), 0, false⟩,
 ⟨(some 34), .fieldAddr 2 (.tmp 3), (some (31, true)), 0, false⟩,
 ⟨(some 35), .load1 (.tmp 34), (some (31, true)), 0, false⟩,
 ⟨(some 36), .call (.func 233) [(.tmp 33), (.tmp 35)], (some (31, true)), 0, false⟩,
 ⟨(some 37), .pick (.tmp 31) (.tmp 36) (.const (.bool false)), none, 0, false⟩,
 ⟨(some 38), .move (.tmp 37), none, 0, false⟩,
 ⟨(some 39), .fieldAddr 3 (.tmp 2), (some (38, true)), 0, false⟩,
 ⟨(some 40), .load1 (.tmp 39), (some (38, true)), 0, false⟩,
 ⟨(some 41), .fieldAddr 3 (.tmp 3), (some (38, true)), 0, false⟩,
 ⟨(some 42), .load1 (.tmp 41), (some (38, true)), 0, false⟩,
 ⟨(some 43), .call (.func 234) [(.tmp 40), (.tmp 42)], (some (38, true)), 0, false⟩,
 ⟨(some 44), .pick (.tmp 38) (.tmp 43) (.const (.bool false)), none, 0, false⟩,
 ⟨(some 4), .move (.tmp 44), none, 0, false⟩])
 .ret))⟩

def L170 : LFunc := ⟨9, [.tmp 2],
 (.seq (.region [⟨(some 2), .move (.const (.bool false)), none, 0, false⟩])
 (.seq (.region [⟨(some 3), .move (.tmp 0), none, 0, false⟩,
 ⟨(some 4), .bin .geq (.tmp 3) (.const (.int .i64 1)), none, 0, false⟩,
 ⟨(some 5), .move (.tmp 4), none, 0, false⟩,
 ⟨(some 6), .move (.tmp 0), (some (5, true)), 0, false⟩,
 ⟨(some 7), .bin .leq (.tmp 6) (.const (.int .i64 255)), (some (5, true)), 0, false⟩,
 ⟨(some 8), .pick (.tmp 5) (.tmp 7) (.const (.bool false)), none, 0, false⟩,
 ⟨(some 2), .move (.tmp 8), none, 0, false⟩])
 .ret))⟩

def L171 : LFunc := ⟨9, [.tmp 2],
 (.seq (.region [⟨(some 2), .move (.const (.bool false)), none, 0, false⟩])
 (.seq (.region [⟨(some 3), .move (.tmp 0), none, 0, false⟩,
 ⟨(some 4), .bin .geq (.tmp 3) (.const (.int .u64 1)), none, 0, false⟩,
 ⟨(some 5), .move (.tmp 4), none, 0, false⟩,
 ⟨(some 6), .move (.tmp 0), (some (5, true)), 0, false⟩,
 ⟨(some 7), .bin .leq (.tmp 6) (.const (.int .u64 281474976710656)), (some (5, true)), 0, false⟩,
 ⟨(some 8), .pick (.tmp 5) (.tmp 7) (.const (.bool false)), none, 0, false⟩,
 ⟨(some 2), .move (.tmp 8), none, 0, false⟩])
 .ret))⟩

def L172 : LFunc := ⟨19, [.tmp 2],
 (.seq (.region [⟨(some 2), .move (.const (.slice none 0 0)), none, 0, false⟩])
 (.seq (.region [⟨(some 3), .move (.const (.slice none 0 0)), none, 0, false⟩])
 (.seq (.seq (.region [⟨(some 6), .move (.tmp 0), none, 0, false⟩,
 ⟨(some 7), .len false (.tmp 6), none, 0, false⟩,
 ⟨(some 8), .move (.const (.int .i64 0)), none, 0, false⟩])
 (.block 0 (.loop (.seq (.region [⟨(some 9), .bin .lss (.tmp 8) (.tmp 7), none, 0, false⟩])
 (.seq (.cond (.tmp 9) .skip
 (.exit 0))
 (.seq (.block 1 (.seq (.region [⟨(some 10), .indexAddr 14 (.tmp 6) (.tmp 8), none, 0, false⟩,
 ⟨(some 11), .loadN 14 (.tmp 10), none, 0, false⟩,
 ⟨(some 5), .alloc [(.int .i64 0), (.int .u8 0), (.int .u8 0), (.int .u8 0), (.int .u8 0), (.int .i64 0), (.int .u64 0), (.int .u64 0), (.int .u64 0), (.int .u64 0), (.int .u64 0), (.int .u64 0), (.int .u64 0), (.int .u64 0)] 121, none, 0, false⟩,
 ⟨none, .store 14 (.tmp 5) (.tmp 11), none, 0, false⟩])
 (.region [⟨(some 12), .move (.tmp 3), none, 0, false⟩,
 ⟨(some 13), .fieldAddr 0 (.tmp 5), none, 0, false⟩,
 ⟨(some 14), .loadN 13 (.tmp 13), none, 0, false⟩,
 ⟨(some 15), .buildSlice 1 13 42 [(.int .i64 0), (.int .u8 0), (.int .u8 0), (.int .u8 0), (.int .u8 0), (.int .i64 0), (.int .u64 0), (.int .u64 0), (.int .u64 0), (.int .u64 0), (.int .u64 0), (.int .u64 0), (.int .u64 0)] [(0, 13, (.tmp 14))], none, 0, false⟩,
 ⟨(some 16), .append 13 80 42 [(.int .i64 0), (.int .u8 0), (.int .u8 0), (.int .u8 0), (.int .u8 0), (.int .i64 0), (.int .u64 0), (.int .u64 0), (.int .u64 0), (.int .u64 0), (.int .u64 0), (.int .u64 0), (.int .u64 0)] false (.tmp 12) (.tmp 15), none, 0, false⟩,
 ⟨(some 3), .move (.tmp 16), none, 0, false⟩])))
 (.region [⟨(some 17), .bin .add (.tmp 8) (.const (.int .i64 1)), none, 0, false⟩,
 ⟨(some 8), .move (.tmp 17), none, 0, false⟩])))))))
 (.seq (.region [⟨(some 18), .move (.tmp 3), none, 0, false⟩,
 ⟨(some 2), .move (.tmp 18), none, 0, false⟩])
 .ret))))⟩

def L173 : LFunc := ⟨9, [.tmp 4],
 (.seq (.region [⟨(some 4), .move (.const (.bool false)), none, 0, false⟩])
 (.seq (.region [⟨(some 5), .move (.tmp 0), none, 0, false⟩,
 ⟨(some 6), .move (.tmp 1), none, 0, false⟩,
 ⟨(some 7), .call (.func 235) [(.tmp 5), (.tmp 6)], none, 0, false⟩,
 ⟨(some 8), .bin .geq (.tmp 7) (.const (.int .i64 0)), none, 0, false⟩,
 ⟨(some 4), .move (.tmp 8), none, 0, false⟩])
 .ret))⟩

def L174 : LFunc := ⟨6, [.tmp 2],
 (.seq (.region [⟨(some 1), .box 14 121 (.tmp 0), none, 0, false⟩,
 ⟨(some 2), .move (.const (.bool false)), none, 0, false⟩])
 (.seq (.region [⟨(some 3), .fieldAddr 13 (.tmp 1), none, 0, false⟩,
 ⟨(some 4), .load1 (.tmp 3), none, 0, false⟩,
 ⟨(some 5), .bin .gtr (.tmp 4) (.const (.int .u64 281474976710656)), none, 0, false⟩,
 ⟨(some 2), .move (.tmp 5), none, 0, false⟩])
 .ret))⟩

def L175 : LFunc := ⟨8, [.tmp 4],
 (.seq (.region [⟨(some 3), .box 1 3 (.tmp 1), none, 0, false⟩,
 ⟨(some 4), .move (.const (.int .i64 0)), none, 0, false⟩])
 (.seq (.region [⟨(some 5), .move (.tmp 0), none, 0, false⟩,
 ⟨(some 6), .mkFunc (.func 236) [] [(.tmp 3)], none, 0, false⟩,
 ⟨(some 7), .call (.func 235) [(.tmp 5), (.tmp 6)], none, 0, false⟩,
 ⟨(some 4), .move (.tmp 7), none, 0, false⟩])
 .ret))⟩

def L176 : LFunc := ⟨33, [.tmp 6],
 (.seq (.region [⟨(some 6), .move (.const (.slice none 0 0)), none, 0, false⟩])
 (.seq (.region [⟨(some 8), .move (.tmp 0), none, 0, false⟩,
 ⟨(some 9), .move (.tmp 1), none, 0, false⟩,
 ⟨(some 10), .move (.tmp 2), none, 0, false⟩,
 ⟨(some 11), .move (.tmp 0), none, 0, false⟩,
 ⟨(some 12), .len false (.tmp 11), none, 0, false⟩,
 ⟨(some 13), .slice 14 (.tmp 8) (some (.tmp 9)) (some (.tmp 10)) (some (.tmp 12)), none, 0, false⟩])
 (.seq (.seq (.region [⟨(some 14), .move (.tmp 1), none, 0, false⟩,
 ⟨(some 15), .move (.tmp 2), none, 0, false⟩,
 ⟨(some 16), .bin .eql (.tmp 14) (.tmp 15), none, 0, false⟩])
 (.cond (.tmp 16) (.seq (.region [⟨(some 17), .move (.tmp 0), none, 0, false⟩,
 ⟨(some 6), .move (.tmp 17), none, 0, false⟩])
 .ret)
 .skip))
 (.seq (.region [⟨(some 18), .move (.tmp 0), none, 0, false⟩,
 ⟨(some 19), .len false (.tmp 18), none, 0, false⟩,
 ⟨(some 7), .move (.tmp 19), none, 0, false⟩])
 (.seq (.draw [⟨(some 20), .move (.tmp 0), none, 0, false⟩,
 ⟨(some 21), .move (.tmp 1), none, 0, false⟩,
 ⟨(some 22), .slice 14 (.tmp 20) none (some (.tmp 21)) none, none, 0, false⟩,
 ⟨(some 23), .move (.tmp 0), none, 0, false⟩,
 ⟨(some 24), .move (.tmp 2), none, 0, false⟩,
 ⟨(some 25), .slice 14 (.tmp 23) (some (.tmp 24)) none none, none, 0, false⟩,
 ⟨(some 26), .append 14 88 121 [(.int .i64 0), (.int .u8 0), (.int .u8 0), (.int .u8 0), (.int .u8 0), (.int .i64 0), (.int .u64 0), (.int .u64 0), (.int .u64 0), (.int .u64 0), (.int .u64 0), (.int .u64 0), (.int .u64 0), (.int .u64 0)] false (.tmp 22) (.tmp 25), none, 0, true⟩,
 ⟨(some 0), .move (.tmp 26), none, 1, false⟩])
 (.seq (.region [⟨(some 27), .move (.tmp 0), none, 0, false⟩,
 ⟨(some 28), .move (.tmp 0), none, 0, false⟩,
 ⟨(some 29), .len false (.tmp 28), none, 0, false⟩,
 ⟨(some 30), .move (.tmp 7), none, 0, false⟩,
 ⟨(some 31), .slice 14 (.tmp 27) (some (.tmp 29)) (some (.tmp 30)) none, none, 0, false⟩,
 ⟨none, .clearSlice [(.int .i64 0), (.int .u8 0), (.int .u8 0), (.int .u8 0), (.int .u8 0), (.int .i64 0), (.int .u64 0), (.int .u64 0), (.int .u64 0), (.int .u64 0), (.int .u64 0), (.int .u64 0), (.int .u64 0), (.int .u64 0)] (.tmp 31), none, 0, false⟩])
 (.seq (.region [⟨(some 32), .move (.tmp 0), none, 0, false⟩,
 ⟨(some 6), .move (.tmp 32), none, 0, false⟩])
 .ret)))))))⟩

def L177 : LFunc := ⟨14, [],
 (.seq (.region [⟨(some 5), .move (.tmp 0), none, 0, false⟩,
 ⟨(some 6), .len false (.tmp 5), none, 0, false⟩,
 ⟨(some 4), .move (.tmp 6), none, 0, false⟩])
 (.region [⟨(some 7), .move (.tmp 0), none, 0, false⟩,
 ⟨(some 8), .move (.tmp 4), none, 0, false⟩,
 ⟨(some 9), .move (.tmp 4), none, 0, false⟩,
 ⟨(some 10), .conv (.int .u64) (.tmp 9), none, 0, false⟩,
 ⟨(some 11), .call (.func 155) [(.tmp 10)], none, 0, false⟩,
 ⟨(some 12), .move (.tmp 1), none, 0, false⟩,
 ⟨(some 13), .call (.func 237) [(.tmp 7), (.const (.int .i64 0)), (.tmp 8), (.tmp 11), (.tmp 12)], none, 0, false⟩]))⟩

def L178 : LFunc := ⟨12, [.tmp 4],
 (.seq (.region [⟨(some 2), .box 14 121 (.tmp 0), none, 0, false⟩,
 ⟨(some 3), .box 14 121 (.tmp 1), none, 0, false⟩,
 ⟨(some 4), .move (.const (.int .i64 0)), none, 0, false⟩])
 (.seq (.region [⟨(some 5), .fieldAddr 0 (.tmp 2), none, 0, false⟩,
 ⟨(some 6), .fieldAddr 0 (.tmp 5), none, 0, false⟩,
 ⟨(some 7), .load1 (.tmp 6), none, 0, false⟩,
 ⟨(some 8), .fieldAddr 0 (.tmp 3), none, 0, false⟩,
 ⟨(some 9), .fieldAddr 0 (.tmp 8), none, 0, false⟩,
 ⟨(some 10), .load1 (.tmp 9), none, 0, false⟩,
 ⟨(some 11), .call (.func 179) [(.tmp 7), (.tmp 10)], none, 0, false⟩,
 ⟨(some 4), .move (.tmp 11), none, 0, false⟩])
 .ret))⟩

def L179 : LFunc := ⟨20, [.tmp 4],
 (.seq (.region [⟨(some 4), .move (.const (.int .i64 0)), none, 0, false⟩])
 (.seq (.region [⟨(some 7), .move (.tmp 0), none, 0, false⟩,
 ⟨(some 8), .call (.func 238) [(.tmp 7)], none, 0, false⟩,
 ⟨(some 5), .move (.tmp 8), none, 0, false⟩])
 (.seq (.region [⟨(some 9), .move (.tmp 1), none, 0, false⟩,
 ⟨(some 10), .call (.func 238) [(.tmp 9)], none, 0, false⟩,
 ⟨(some 6), .move (.tmp 10), none, 0, false⟩])
 (.seq (.seq (.region [⟨(some 11), .move (.tmp 5), none, 0, false⟩])
 (.cond (.tmp 11) (.seq (.seq (.region [⟨(some 12), .move (.tmp 6), none, 0, false⟩])
 (.cond (.tmp 12) (.seq (.region [⟨(some 4), .move (.const (.int .i64 0)), none, 0, false⟩])
 .ret)
 .skip))
 (.seq (.region [⟨(some 4), .move (.const (.int .i64 (-1))), none, 0, false⟩])
 .ret))
 .skip))
 (.seq (.seq (.region [⟨(some 13), .move (.tmp 6), none, 0, false⟩])
 (.cond (.tmp 13) (.seq (.region [⟨(some 4), .move (.const (.int .i64 1)), none, 0, false⟩])
 .ret)
 .skip))
 (.seq (.seq (.region [⟨(some 14), .move (.tmp 0), none, 0, false⟩,
 ⟨(some 15), .move (.tmp 1), none, 0, false⟩,
 ⟨(some 16), .bin .lss (.tmp 14) (.tmp 15), none, 0, false⟩])
 (.cond (.tmp 16) (.seq (.region [⟨(some 4), .move (.const (.int .i64 (-1))), none, 0, false⟩])
 .ret)
 .skip))
 (.seq (.seq (.region [⟨(some 17), .move (.tmp 0), none, 0, false⟩,
 ⟨(some 18), .move (.tmp 1), none, 0, false⟩,
 ⟨(some 19), .bin .gtr (.tmp 17) (.tmp 18), none, 0, false⟩])
 (.cond (.tmp 19) (.seq (.region [⟨(some 4), .move (.const (.int .i64 1)), none, 0, false⟩])
 .ret)
 .skip))
 (.seq (.region [⟨(some 4), .move (.const (.int .i64 0)), none, 0, false⟩])
 .ret))))))))⟩

def L180 : LFunc := ⟨31, [.tmp 4, .tmp 5],
 (.seq (.region [⟨(some 4), .move (.const (.int .i64 0)), none, 0, false⟩,
 ⟨(some 5), .move (.const (.int .i64 0)), none, 0, false⟩])
 (.seq (.region [⟨(some 11), .move (.tmp 0), none, 0, false⟩,
 ⟨(some 12), .call (.func 50) [(.tmp 11)], none, 0, false⟩,
 ⟨(some 10), .move (.tmp 12), none, 0, false⟩,
 ⟨(some 13), .extract (.tmp 10) 0, none, 0, false⟩,
 ⟨(some 14), .extract (.tmp 10) 1, none, 0, false⟩,
 ⟨(some 6), .move (.tmp 13), none, 0, false⟩,
 ⟨(some 7), .move (.tmp 14), none, 0, false⟩])
 (.seq (.seq (.region [⟨(some 15), .move (.tmp 1), none, 0, false⟩,
 ⟨(some 16), .len false (.tmp 15), none, 0, false⟩,
 ⟨(some 17), .move (.const (.int .i64 0)), none, 0, false⟩])
 (.block 0 (.loop (.seq (.region [⟨(some 18), .bin .lss (.tmp 17) (.tmp 16), none, 0, false⟩])
 (.seq (.cond (.tmp 18) .skip
 (.exit 0))
 (.seq (.block 1 (.seq (.region [⟨(some 19), .indexAddr 1 (.tmp 15) (.tmp 17), none, 0, false⟩,
 ⟨(some 20), .load1 (.tmp 19), none, 0, false⟩,
 ⟨(some 9), .move (.tmp 20), none, 0, false⟩])
 (.seq (.region [⟨(some 21), .move (.tmp 9), none, 0, false⟩,
 ⟨(some 22), .bin .lss (.tmp 21) (.const (.int .i64 0)), none, 0, false⟩,
 ⟨(some 23), .move (.tmp 22), none, 0, false⟩,
 ⟨(some 24), .move (.tmp 9), (some (23, false)), 0, false⟩,
 ⟨(some 25), .move (.tmp 6), (some (23, false)), 0, false⟩,
 ⟨(some 26), .bin .geq (.tmp 24) (.tmp 25), (some (23, false)), 0, false⟩,
 ⟨(some 27), .pick (.tmp 23) (.const (.bool true)) (.tmp 26), none, 0, false⟩])
 (.cond (.tmp 27) (.region [⟨(some 7), .move (.const (.int .i64 91)), none, 0, false⟩])
 .skip))))
 (.region [⟨(some 28), .bin .add (.tmp 17) (.const (.int .i64 1)), none, 0, false⟩,
 ⟨(some 17), .move (.tmp 28), none, 0, false⟩])))))))
 (.seq (.region [⟨(some 29), .move (.tmp 6), none, 0, false⟩,
 ⟨(some 30), .move (.tmp 7), none, 0, false⟩,
 ⟨(some 4), .move (.tmp 29), none, 0, false⟩,
 ⟨(some 5), .move (.tmp 30), none, 0, false⟩])
 .ret))))⟩

def L181 : LFunc := ⟨51, [.tmp 4, .tmp 5],
 (.seq (.region [⟨(some 4), .move (.const (.int .u64 0)), none, 0, false⟩,
 ⟨(some 5), .move (.const (.int .u64 0)), none, 0, false⟩])
 (.seq (.region [⟨(some 14), .move (.tmp 0), none, 0, false⟩,
 ⟨(some 15), .bin .and (.tmp 14) (.const (.int .u64 4294967295)), none, 0, false⟩,
 ⟨(some 6), .move (.tmp 15), none, 0, false⟩])
 (.seq (.region [⟨(some 16), .move (.tmp 0), none, 0, false⟩,
 ⟨(some 17), .bin .shr (.tmp 16) (.const (.int .u64 32)), none, 0, false⟩,
 ⟨(some 7), .move (.tmp 17), none, 0, false⟩])
 (.seq (.region [⟨(some 18), .move (.tmp 1), none, 0, false⟩,
 ⟨(some 19), .bin .and (.tmp 18) (.const (.int .u64 4294967295)), none, 0, false⟩,
 ⟨(some 8), .move (.tmp 19), none, 0, false⟩])
 (.seq (.region [⟨(some 20), .move (.tmp 1), none, 0, false⟩,
 ⟨(some 21), .bin .shr (.tmp 20) (.const (.int .u64 32)), none, 0, false⟩,
 ⟨(some 9), .move (.tmp 21), none, 0, false⟩])
 (.seq (.region [⟨(some 22), .move (.tmp 6), none, 0, false⟩,
 ⟨(some 23), .move (.tmp 8), none, 0, false⟩,
 ⟨(some 24), .bin .mul (.tmp 22) (.tmp 23), none, 0, false⟩,
 ⟨(some 10), .move (.tmp 24), none, 0, false⟩])
 (.seq (.region [⟨(some 25), .move (.tmp 7), none, 0, false⟩,
 ⟨(some 26), .move (.tmp 8), none, 0, false⟩,
 ⟨(some 27), .bin .mul (.tmp 25) (.tmp 26), none, 0, false⟩,
 ⟨(some 28), .move (.tmp 10), none, 0, false⟩,
 ⟨(some 29), .bin .shr (.tmp 28) (.const (.int .u64 32)), none, 0, false⟩,
 ⟨(some 30), .bin .add (.tmp 27) (.tmp 29), none, 0, false⟩,
 ⟨(some 11), .move (.tmp 30), none, 0, false⟩])
 (.seq (.region [⟨(some 31), .move (.tmp 11), none, 0, false⟩,
 ⟨(some 32), .bin .and (.tmp 31) (.const (.int .u64 4294967295)), none, 0, false⟩,
 ⟨(some 12), .move (.tmp 32), none, 0, false⟩])
 (.seq (.region [⟨(some 33), .move (.tmp 11), none, 0, false⟩,
 ⟨(some 34), .bin .shr (.tmp 33) (.const (.int .u64 32)), none, 0, false⟩,
 ⟨(some 13), .move (.tmp 34), none, 0, false⟩])
 (.seq (.region [⟨(some 35), .move (.tmp 12), none, 0, false⟩,
 ⟨(some 36), .move (.tmp 6), none, 0, false⟩,
 ⟨(some 37), .move (.tmp 9), none, 0, false⟩,
 ⟨(some 38), .bin .mul (.tmp 36) (.tmp 37), none, 0, false⟩,
 ⟨(some 39), .bin .add (.tmp 35) (.tmp 38), none, 0, false⟩,
 ⟨(some 12), .move (.tmp 39), none, 0, false⟩])
 (.seq (.region [⟨(some 40), .move (.tmp 7), none, 0, false⟩,
 ⟨(some 41), .move (.tmp 9), none, 0, false⟩,
 ⟨(some 42), .bin .mul (.tmp 40) (.tmp 41), none, 0, false⟩,
 ⟨(some 43), .move (.tmp 13), none, 0, false⟩,
 ⟨(some 44), .bin .add (.tmp 42) (.tmp 43), none, 0, false⟩,
 ⟨(some 45), .move (.tmp 12), none, 0, false⟩,
 ⟨(some 46), .bin .shr (.tmp 45) (.const (.int .u64 32)), none, 0, false⟩,
 ⟨(some 47), .bin .add (.tmp 44) (.tmp 46), none, 0, false⟩,
 ⟨(some 4), .move (.tmp 47), none, 0, false⟩])
 (.seq (.region [⟨(some 48), .move (.tmp 0), none, 0, false⟩,
 ⟨(some 49), .move (.tmp 1), none, 0, false⟩,
 ⟨(some 50), .bin .mul (.tmp 48) (.tmp 49), none, 0, false⟩,
 ⟨(some 5), .move (.tmp 50), none, 0, false⟩])
 .ret))))))))))))⟩

def L182 : LFunc := ⟨15, [.tmp 2],
 (.seq (.region [⟨(some 2), .move (.const (.int .i64 0)), none, 0, false⟩])
 (.seq (.seq (.region [⟨(some 3), .move (.tmp 0), none, 0, false⟩,
 ⟨(some 4), .bin .lss (.tmp 3) (.const (.int .i64 0)), none, 0, false⟩,
 ⟨(some 5), .move (.tmp 4), none, 0, false⟩,
 ⟨(some 6), .move (.tmp 0), (some (5, false)), 0, false⟩,
 ⟨(some 7), .bin .gtr (.tmp 6) (.const (.int .i64 700)), (some (5, false)), 0, false⟩,
 ⟨(some 8), .pick (.tmp 5) (.const (.bool true)) (.tmp 7), none, 0, false⟩])
 (.cond (.tmp 8) (.seq (.region [⟨(some 2), .move (.const (.int .i64 0)), none, 0, false⟩])
 .ret)
 .skip))
 (.seq (.region [⟨(some 9), .move (.tmp 0), none, 0, false⟩,
 ⟨(some 10), .bin .add (.const (.int .i64 14)) (.tmp 9), none, 0, false⟩,
 ⟨(some 11), .bin .add (.tmp 10) (.const (.int .i64 4)), none, 0, false⟩,
 ⟨(some 12), .bin .add (.tmp 11) (.const (.int .i64 64)), none, 0, false⟩,
 ⟨(some 13), .bin .sub (.tmp 12) (.const (.int .i64 1)), none, 0, false⟩,
 ⟨(some 14), .bin .quo (.tmp 13) (.const (.int .i64 64)), none, 0, false⟩,
 ⟨(some 2), .move (.tmp 14), none, 0, false⟩])
 .ret)))⟩

def L183 : LFunc := ⟨17, [.tmp 2],
 (.seq (.region [⟨(some 1), .box 4 38 (.tmp 0), none, 0, false⟩,
 ⟨(some 2), .move (.const (.int .u32 0)), none, 0, false⟩])
 (.seq (.region [⟨(some 3), .move (.const (.int .u32 0)), none, 0, false⟩])
 (.seq (.seq (.region [⟨(some 6), .loadN 4 (.tmp 1), none, 0, false⟩,
 ⟨(some 7), .move (.const (.int .i64 0)), none, 0, false⟩])
 (.block 0 (.loop (.seq (.region [⟨(some 8), .bin .lss (.tmp 7) (.const (.int .i64 4)), none, 0, false⟩])
 (.seq (.cond (.tmp 8) .skip
 (.exit 0))
 (.seq (.block 1 (.seq (.region [⟨(some 9), .indexAgg 4 1 false (.tmp 6) (.tmp 7), none, 0, false⟩,
 ⟨(some 5), .move (.tmp 9), none, 0, false⟩])
 (.region [⟨(some 10), .move (.tmp 3), none, 0, false⟩,
 ⟨(some 11), .bin .shl (.tmp 10) (.const (.int .u64 8)), none, 0, false⟩,
 ⟨(some 12), .move (.tmp 5), none, 0, false⟩,
 ⟨(some 13), .conv (.int .u32) (.tmp 12), none, 0, false⟩,
 ⟨(some 14), .bin .or (.tmp 11) (.tmp 13), none, 0, false⟩,
 ⟨(some 3), .move (.tmp 14), none, 0, false⟩])))
 (.region [⟨(some 15), .bin .add (.tmp 7) (.const (.int .i64 1)), none, 0, false⟩,
 ⟨(some 7), .move (.tmp 15), none, 0, false⟩])))))))
 (.seq (.region [⟨(some 16), .move (.tmp 3), none, 0, false⟩,
 ⟨(some 2), .move (.tmp 16), none, 0, false⟩])
 .ret))))⟩

def L184 : LFunc := ⟨20, [.tmp 2],
 (.seq (.region [⟨(some 2), .move (.const (.slice none 0 0)), none, 0, false⟩])
 (.seq (.region [⟨(some 4), .mkSlice 1 1 5 [(.int .u8 0)] (.const (.int .i64 0)) (.const (.int .i64 10)), none, 0, false⟩,
 ⟨(some 3), .move (.tmp 4), none, 0, false⟩])
 (.seq (.block 0 (.loop (.seq (.seq (.region [⟨(some 5), .move (.tmp 0), none, 0, false⟩,
 ⟨(some 6), .bin .geq (.tmp 5) (.const (.int .u64 128)), none, 0, false⟩])
 (.cond (.tmp 6) .skip
 (.exit 0)))
 (.block 1 (.seq (.region [⟨(some 7), .move (.tmp 3), none, 0, false⟩,
 ⟨(some 8), .move (.tmp 0), none, 0, false⟩,
 ⟨(some 9), .conv (.int .u8) (.tmp 8), none, 0, false⟩,
 ⟨(some 10), .bin .or (.tmp 9) (.const (.int .u8 128)), none, 0, false⟩,
 ⟨(some 11), .buildSlice 1 1 5 [(.int .u8 0)] [(0, 1, (.tmp 10))], none, 0, false⟩,
 ⟨(some 12), .append 1 1 5 [(.int .u8 0)] false (.tmp 7) (.tmp 11), none, 0, false⟩,
 ⟨(some 3), .move (.tmp 12), none, 0, false⟩])
 (.region [⟨(some 13), .move (.tmp 0), none, 0, false⟩,
 ⟨(some 14), .bin .shr (.tmp 13) (.const (.int .u64 7)), none, 0, false⟩,
 ⟨(some 0), .move (.tmp 14), none, 0, false⟩]))))))
 (.seq (.region [⟨(some 15), .move (.tmp 3), none, 0, false⟩,
 ⟨(some 16), .move (.tmp 0), none, 0, false⟩,
 ⟨(some 17), .conv (.int .u8) (.tmp 16), none, 0, false⟩,
 ⟨(some 18), .buildSlice 1 1 5 [(.int .u8 0)] [(0, 1, (.tmp 17))], none, 0, false⟩,
 ⟨(some 19), .append 1 1 5 [(.int .u8 0)] false (.tmp 15) (.tmp 18), none, 0, false⟩,
 ⟨(some 2), .move (.tmp 19), none, 0, false⟩])
 .ret))))⟩

def L185 : LFunc := ⟨10, [.tmp 2],
 (.seq (.region [⟨(some 2), .move (.const (.slice none 0 0)), none, 0, false⟩])
 (.seq (.region [⟨(some 3), .move (.tmp 0), none, 0, false⟩,
 ⟨(some 4), .move (.tmp 0), none, 0, false⟩,
 ⟨(some 5), .buildSlice 1 1 36 [(.slice none 0 0)] [(0, 1, (.tmp 4))], none, 0, false⟩,
 ⟨(some 6), .call (.func 240) [(.tmp 5)], none, 0, false⟩,
 ⟨(some 7), .call (.func 239) [(.tmp 6)], none, 0, false⟩,
 ⟨(some 8), .buildSlice 2 1 36 [(.slice none 0 0), (.slice none 0 0)] [(0, 1, (.tmp 3)), (1, 1, (.tmp 7))], none, 0, false⟩,
 ⟨(some 9), .call (.func 186) [(.tmp 8)], none, 0, false⟩,
 ⟨(some 2), .move (.tmp 9), none, 0, false⟩])
 .ret))⟩

def L186 : LFunc := ⟨36, [.tmp 2],
 (.seq (.region [⟨(some 2), .move (.const (.slice none 0 0)), none, 0, false⟩])
 (.seq (.region [⟨(some 3), .move (.const (.int .i64 0)), none, 0, false⟩])
 (.seq (.seq (.region [⟨(some 9), .move (.tmp 0), none, 0, false⟩,
 ⟨(some 10), .len false (.tmp 9), none, 0, false⟩,
 ⟨(some 11), .move (.const (.int .i64 0)), none, 0, false⟩])
 (.block 0 (.loop (.seq (.region [⟨(some 12), .bin .lss (.tmp 11) (.tmp 10), none, 0, false⟩])
 (.seq (.cond (.tmp 12) .skip
 (.exit 0))
 (.seq (.block 1 (.seq (.region [⟨(some 13), .indexAddr 1 (.tmp 9) (.tmp 11), none, 0, false⟩,
 ⟨(some 14), .load1 (.tmp 13), none, 0, false⟩,
 ⟨(some 5), .move (.tmp 14), none, 0, false⟩])
 (.seq (.region [⟨(some 15), .move (.tmp 3), none, 0, false⟩,
 ⟨(some 16), .move (.tmp 5), none, 0, false⟩,
 ⟨(some 17), .len false (.tmp 16), none, 0, false⟩,
 ⟨(some 18), .bin .add (.tmp 15) (.tmp 17), none, 0, false⟩,
 ⟨(some 3), .move (.tmp 18), none, 0, false⟩])
 (.seq (.region [⟨(some 19), .move (.tmp 3), none, 0, false⟩,
 ⟨(some 20), .bin .lss (.tmp 19) (.const (.int .i64 0)), none, 0, false⟩])
 (.cond (.tmp 20) (.region [⟨(some 21), .mkIface 9 (.const (.string ⟨⟨[108, 101, 110, 32, 111, 117, 116, 32, 111, 102, 32, 114, 97, 110, 103, 101]⟩⟩)), none, 0, false⟩,
 ⟨none, .bad, none, 0, false⟩])
 .skip)))))
 (.region [⟨(some 22), .bin .add (.tmp 11) (.const (.int .i64 1)), none, 0, false⟩,
 ⟨(some 11), .move (.tmp 22), none, 0, false⟩])))))))
 (.seq (.region [⟨(some 23), .move (.tmp 3), none, 0, false⟩,
 ⟨(some 24), .call (.func 241) [(.const (.slice none 0 0)), (.tmp 23)], none, 0, false⟩,
 ⟨(some 6), .move (.tmp 24), none, 0, false⟩])
 (.seq (.seq (.region [⟨(some 25), .move (.tmp 0), none, 0, false⟩,
 ⟨(some 26), .len false (.tmp 25), none, 0, false⟩,
 ⟨(some 27), .move (.const (.int .i64 0)), none, 0, false⟩])
 (.block 2 (.loop (.seq (.region [⟨(some 28), .bin .lss (.tmp 27) (.tmp 26), none, 0, false⟩])
 (.seq (.cond (.tmp 28) .skip
 (.exit 2))
 (.seq (.block 3 (.seq (.region [⟨(some 29), .indexAddr 1 (.tmp 25) (.tmp 27), none, 0, false⟩,
 ⟨(some 30), .load1 (.tmp 29), none, 0, false⟩,
 ⟨(some 8), .move (.tmp 30), none, 0, false⟩])
 (.region [⟨(some 31), .move (.tmp 6), none, 0, false⟩,
 ⟨(some 32), .move (.tmp 8), none, 0, false⟩,
 ⟨(some 33), .append 1 1 5 [(.int .u8 0)] false (.tmp 31) (.tmp 32), none, 0, false⟩,
 ⟨(some 6), .move (.tmp 33), none, 0, false⟩])))
 (.region [⟨(some 34), .bin .add (.tmp 27) (.const (.int .i64 1)), none, 0, false⟩,
 ⟨(some 27), .move (.tmp 34), none, 0, false⟩])))))))
 (.seq (.region [⟨(some 35), .move (.tmp 6), none, 0, false⟩,
 ⟨(some 2), .move (.tmp 35), none, 0, false⟩])
 .ret))))))⟩

def L187 : LFunc := ⟨21, [.tmp 4],
 (.seq (.region [⟨(some 2), .box 1 26 (.tmp 0), none, 0, false⟩,
 ⟨(some 4), .move (.const (.slice none 0 0)), none, 0, false⟩])
 (.seq (.region [⟨(some 7), .move (.tmp 1), none, 0, false⟩,
 ⟨(some 8), .mkSlice 1 1 5 [(.int .u8 0)] (.tmp 7) (.tmp 7), none, 0, false⟩,
 ⟨(some 5), .alloc [(.slice none 0 0)] 36, none, 0, false⟩,
 ⟨none, .store 1 (.tmp 5) (.tmp 8), none, 0, false⟩])
 (.seq (.seq (.region [⟨(some 9), .load1 (.tmp 5), none, 0, false⟩,
 ⟨(some 10), .call (.func 242) [(.tmp 9)], none, 0, false⟩])
 (.block 0 (.rangeFunc (.tmp 10) [11, 12] (.region [⟨(some 6), .move (.tmp 11), none, 0, false⟩]) (.block 1 (.seq (.region [⟨(some 13), .load1 (.tmp 5), none, 0, false⟩,
 ⟨(some 14), .move (.tmp 6), none, 0, false⟩,
 ⟨(some 15), .load1 (.tmp 2), none, 0, false⟩,
 ⟨(some 16), .conv (.int .u8) (.tmp 15), none, 0, false⟩,
 ⟨(some 17), .indexAddr 1 (.tmp 13) (.tmp 14), none, 0, false⟩,
 ⟨none, .store 1 (.tmp 17) (.tmp 16), none, 0, false⟩])
 (.region [⟨(some 18), .load1 (.tmp 2), none, 0, false⟩,
 ⟨(some 19), .bin .shr (.tmp 18) (.const (.int .u64 8)), none, 0, false⟩,
 ⟨none, .store 1 (.tmp 2) (.tmp 19), none, 0, false⟩]))))))
 (.seq (.region [⟨(some 20), .load1 (.tmp 5), none, 0, false⟩,
 ⟨(some 4), .move (.tmp 20), none, 0, false⟩])
 .ret))))⟩

def L188 : LFunc := ⟨16, [.tmp 4],
 (.seq (.region [⟨(some 4), .move (.const (.bool false)), none, 0, false⟩])
 (.seq (.region [⟨(some 5), .move (.tmp 1), none, 0, false⟩,
 ⟨(some 6), .bin .geq (.tmp 5) (.const (.int .i64 0)), none, 0, false⟩,
 ⟨(some 7), .move (.tmp 6), none, 0, false⟩,
 ⟨(some 8), .move (.tmp 1), (some (7, true)), 0, false⟩,
 ⟨(some 9), .move (.tmp 0), (some (7, true)), 0, false⟩,
 ⟨(some 10), .nilCheck (.tmp 9), (some (7, true)), 0, false⟩,
 ⟨(some 11), .fieldAddr 0 (.tmp 10), (some (7, true)), 0, false⟩,
 ⟨(some 12), .load1 (.tmp 11), (some (7, true)), 0, false⟩,
 ⟨(some 13), .len false (.tmp 12), (some (7, true)), 0, false⟩,
 ⟨(some 14), .bin .lss (.tmp 8) (.tmp 13), (some (7, true)), 0, false⟩,
 ⟨(some 15), .pick (.tmp 7) (.tmp 14) (.const (.bool false)), none, 0, false⟩,
 ⟨(some 4), .move (.tmp 15), none, 0, false⟩])
 .ret))⟩

def L189 : LFunc := ⟨30, [.tmp 2],
 (.seq (.region [⟨(some 2), .move (.const (.int .i64 0)), none, 0, false⟩])
 (.seq (.block 0 (.seq (.region [⟨(some 4), .move (.tmp 0), none, 0, false⟩,
 ⟨(some 5), .nilCheck (.tmp 4), none, 0, false⟩,
 ⟨(some 6), .fieldAddr 3 (.tmp 5), none, 0, false⟩,
 ⟨(some 7), .load1 (.tmp 6), none, 0, false⟩,
 ⟨(some 3), .move (.tmp 7), none, 0, false⟩])
 (.cond (.tmp 3) .skip
 (.seq (.region [⟨(some 9), .move (.tmp 0), none, 0, false⟩,
 ⟨(some 10), .nilCheck (.tmp 9), none, 0, false⟩,
 ⟨(some 11), .fieldAddr 2 (.tmp 10), none, 0, false⟩,
 ⟨(some 12), .load1 (.tmp 11), none, 0, false⟩,
 ⟨(some 13), .bin .eql (.tmp 12) (.const (.int .i64 (-1))), none, 0, false⟩,
 ⟨(some 8), .move (.tmp 13), none, 0, false⟩])
 (.cond (.tmp 8) (.seq (.region [⟨(some 2), .move (.const (.int .i64 0)), none, 0, false⟩])
 .ret)
 (.seq (.region [⟨(some 15), .move (.tmp 0), none, 0, false⟩,
 ⟨(some 16), .nilCheck (.tmp 15), none, 0, false⟩,
 ⟨(some 17), .fieldAddr 2 (.tmp 16), none, 0, false⟩,
 ⟨(some 18), .load1 (.tmp 17), none, 0, false⟩,
 ⟨(some 19), .bin .gtr (.tmp 18) (.const (.int .i64 0)), none, 0, false⟩,
 ⟨(some 14), .move (.tmp 19), none, 0, false⟩])
 (.cond (.tmp 14) (.seq (.region [⟨(some 20), .move (.tmp 0), none, 0, false⟩,
 ⟨(some 21), .nilCheck (.tmp 20), none, 0, false⟩,
 ⟨(some 22), .fieldAddr 2 (.tmp 21), none, 0, false⟩,
 ⟨(some 23), .load1 (.tmp 22), none, 0, false⟩,
 ⟨(some 24), .bin .sub (.tmp 23) (.const (.int .i64 1)), none, 0, false⟩,
 ⟨(some 25), .nilCheck (.tmp 20), none, 0, false⟩,
 ⟨(some 26), .fieldAddr 2 (.tmp 25), none, 0, false⟩,
 ⟨none, .store 1 (.tmp 26) (.tmp 24), none, 0, false⟩])
 (.seq (.region [⟨(some 2), .move (.const (.int .i64 0)), none, 0, false⟩])
 .ret))
 .skip)))))))
 (.seq (.region [⟨(some 27), .move (.tmp 0), none, 0, false⟩,
 ⟨(some 28), .nilCheck (.tmp 27), none, 0, false⟩,
 ⟨(some 29), .fieldAddr 3 (.tmp 28), none, 0, false⟩,
 ⟨none, .store 1 (.tmp 29) (.const (.bool true)), none, 0, false⟩])
 (.seq (.region [⟨(some 2), .move (.const (.int .i64 72)), none, 0, false⟩])
 .ret))))⟩

def L190 : LFunc := ⟨3, [.tmp 2],
 (.seq (.region [⟨(some 2), .move (.const (.bool false)), none, 0, false⟩])
 (.seq (.region [⟨(some 2), .move (.const (.bool true)), none, 0, false⟩])
 .ret))⟩

def L191 : LFunc := ⟨14, [],
 (.seq (.region [⟨(some 4), .load1 (.tmp 1), none, 0, false⟩,
 ⟨(some 5), .rangeMap (.tmp 4), none, 0, false⟩])
 (.block 0 (.loop (.seq (.region [⟨(some 6), .nextMap (.tmp 5), none, 0, false⟩,
 ⟨(some 7), .extract (.tmp 6) 0, none, 0, false⟩])
 (.seq (.cond (.tmp 7) .skip
 (.exit 0))
 (.block 1 (.seq (.region [⟨(some 8), .entryMap (.tmp 5), none, 0, false⟩,
 ⟨(some 9), .extract (.tmp 8) 0, none, 0, false⟩,
 ⟨(some 3), .move (.tmp 9), none, 0, false⟩])
 (.seq (.region [⟨(some 10), .move (.tmp 0), none, 0, false⟩,
 ⟨(some 11), .move (.tmp 3), none, 0, false⟩,
 ⟨(some 12), .call (.tmp 10) [(.tmp 11)], none, 0, false⟩,
 ⟨(some 13), .un .not (.tmp 12), none, 0, false⟩])
 (.cond (.tmp 13) .ret
 .skip)))))))))⟩

def L192 : LFunc := ⟨5, [.tmp 2],
 (.seq (.region [⟨(some 2), .move (.const (.bool false)), none, 0, false⟩])
 (.seq (.region [⟨(some 3), .move (.tmp 0), none, 0, false⟩,
 ⟨(some 4), .bin .gtr (.tmp 3) (.const (.int .u64 281474976710656)), none, 0, false⟩,
 ⟨(some 2), .move (.tmp 4), none, 0, false⟩])
 .ret))⟩

def L193 : LFunc := ⟨5, [.tmp 2],
 (.seq (.region [⟨(some 2), .move (.const (.bool false)), none, 0, false⟩])
 (.seq (.region [⟨(some 3), .move (.tmp 0), none, 0, false⟩,
 ⟨(some 4), .bin .lss (.tmp 3) (.const (.int .u64 1500)), none, 0, false⟩,
 ⟨(some 2), .move (.tmp 4), none, 0, false⟩])
 .ret))⟩

def L194 : LFunc := ⟨9, [.tmp 4],
 (.seq (.region [⟨(some 4), .move (.const (.bool false)), none, 0, false⟩])
 (.seq (.region [⟨(some 5), .move (.tmp 0), none, 0, false⟩,
 ⟨(some 6), .move (.tmp 1), none, 0, false⟩,
 ⟨(some 7), .call (.func 243) [(.tmp 5), (.tmp 6)], none, 0, false⟩,
 ⟨(some 8), .bin .geq (.tmp 7) (.const (.int .i64 0)), none, 0, false⟩,
 ⟨(some 4), .move (.tmp 8), none, 0, false⟩])
 .ret))⟩

def L195 : LFunc := ⟨42, [.tmp 4],
 (.seq (.region [⟨(some 4), .move (.const (.slice none 0 0)), none, 0, false⟩])
 (.seq (.region [⟨(some 8), .move (.tmp 0), none, 0, false⟩,
 ⟨(some 9), .move (.tmp 1), none, 0, false⟩,
 ⟨(some 10), .call (.func 244) [(.tmp 8), (.tmp 9)], none, 0, false⟩,
 ⟨(some 5), .move (.tmp 10), none, 0, false⟩])
 (.seq (.seq (.region [⟨(some 11), .move (.tmp 5), none, 0, false⟩,
 ⟨(some 12), .bin .eql (.tmp 11) (.const (.int .i64 (-1))), none, 0, false⟩])
 (.cond (.tmp 12) (.seq (.region [⟨(some 13), .move (.tmp 0), none, 0, false⟩,
 ⟨(some 4), .move (.tmp 13), none, 0, false⟩])
 .ret)
 .skip))
 (.seq (.seq (.region [⟨(some 14), .move (.tmp 5), none, 0, false⟩,
 ⟨(some 15), .bin .add (.tmp 14) (.const (.int .i64 1)), none, 0, false⟩,
 ⟨(some 6), .move (.tmp 15), none, 0, false⟩])
 (.block 0 (.loop (.seq (.seq (.region [⟨(some 16), .move (.tmp 6), none, 0, false⟩,
 ⟨(some 17), .move (.tmp 0), none, 0, false⟩,
 ⟨(some 18), .len false (.tmp 17), none, 0, false⟩,
 ⟨(some 19), .bin .lss (.tmp 16) (.tmp 18), none, 0, false⟩])
 (.cond (.tmp 19) .skip
 (.exit 0)))
 (.seq (.block 1 (.seq (.region [⟨(some 22), .move (.tmp 0), none, 0, false⟩,
 ⟨(some 23), .move (.tmp 6), none, 0, false⟩,
 ⟨(some 24), .indexAddr 1 (.tmp 22) (.tmp 23), none, 0, false⟩,
 ⟨(some 25), .load1 (.tmp 24), none, 0, false⟩,
 ⟨(some 7), .move (.tmp 25), none, 0, false⟩])
 (.seq (.region [⟨(some 26), .move (.tmp 1), none, 0, false⟩,
 ⟨(some 27), .move (.tmp 7), none, 0, false⟩,
 ⟨(some 28), .call (.tmp 26) [(.tmp 27)], none, 0, false⟩,
 ⟨(some 29), .un .not (.tmp 28), none, 0, false⟩])
 (.cond (.tmp 29) (.seq (.region [⟨(some 30), .move (.tmp 0), none, 0, false⟩,
 ⟨(some 31), .move (.tmp 5), none, 0, false⟩,
 ⟨(some 32), .move (.tmp 7), none, 0, false⟩,
 ⟨(some 33), .indexAddr 1 (.tmp 30) (.tmp 31), none, 0, false⟩,
 ⟨none, .store 1 (.tmp 33) (.tmp 32), none, 0, false⟩])
 (.region [⟨(some 34), .move (.tmp 5), none, 0, false⟩,
 ⟨(some 35), .bin .add (.tmp 34) (.const (.int .i64 1)), none, 0, false⟩,
 ⟨(some 5), .move (.tmp 35), none, 0, false⟩]))
 .skip))))
 (.region [⟨(some 20), .move (.tmp 6), none, 0, false⟩,
 ⟨(some 21), .bin .add (.tmp 20) (.const (.int .i64 1)), none, 0, false⟩,
 ⟨(some 6), .move (.tmp 21), none, 0, false⟩]))))))
 (.seq (.region [⟨(some 36), .move (.tmp 0), none, 0, false⟩,
 ⟨(some 37), .move (.tmp 5), none, 0, false⟩,
 ⟨(some 38), .slice 1 (.tmp 36) (some (.tmp 37)) none none, none, 0, false⟩,
 ⟨none, .clearSlice [(.int .i64 0)] (.tmp 38), none, 0, false⟩])
 (.seq (.region [⟨(some 39), .move (.tmp 0), none, 0, false⟩,
 ⟨(some 40), .move (.tmp 5), none, 0, false⟩,
 ⟨(some 41), .slice 1 (.tmp 39) none (some (.tmp 40)) none, none, 0, false⟩,
 ⟨(some 4), .move (.tmp 41), none, 0, false⟩])
 .ret))))))⟩

def L196 : LFunc := ⟨7, [.tmp 3],
 (.seq (.region [⟨(some 3), .move (.const (.bool false)), none, 0, false⟩])
 (.seq (.region [⟨(some 4), .move (.tmp 0), none, 0, false⟩,
 ⟨(some 5), .load1 (.tmp 1), none, 0, false⟩,
 ⟨(some 6), .bin .eql (.tmp 4) (.tmp 5), none, 0, false⟩,
 ⟨(some 3), .move (.tmp 6), none, 0, false⟩])
 .ret))⟩

def L197 : LFunc := ⟨33, [.tmp 2],
 (.seq (.region [⟨(some 2), .move (.const (.int .u16 0)), none, 0, false⟩])
 (.seq (.region [⟨(some 3), .move (.const (.int .u64 0)), none, 0, false⟩])
 (.seq (.seq (.region [⟨(some 6), .move (.tmp 0), none, 0, false⟩,
 ⟨(some 7), .len false (.tmp 6), none, 0, false⟩,
 ⟨(some 8), .move (.const (.int .i64 0)), none, 0, false⟩])
 (.block 0 (.loop (.seq (.region [⟨(some 9), .bin .lss (.tmp 8) (.tmp 7), none, 0, false⟩])
 (.seq (.cond (.tmp 9) .skip
 (.exit 0))
 (.seq (.block 1 (.seq (.region [⟨(some 10), .move (.tmp 8), none, 0, false⟩,
 ⟨(some 11), .indexAddr 1 (.tmp 6) (.tmp 8), none, 0, false⟩,
 ⟨(some 12), .load1 (.tmp 11), none, 0, false⟩,
 ⟨(some 4), .move (.tmp 10), none, 0, false⟩,
 ⟨(some 5), .move (.tmp 12), none, 0, false⟩])
 (.region [⟨(some 13), .move (.tmp 3), none, 0, false⟩,
 ⟨(some 14), .move (.tmp 5), none, 0, false⟩,
 ⟨(some 15), .conv (.int .u64) (.tmp 14), none, 0, false⟩,
 ⟨(some 16), .move (.tmp 4), none, 0, false⟩,
 ⟨(some 17), .bin .rem (.tmp 16) (.const (.int .i64 2)), none, 0, false⟩,
 ⟨(some 18), .bin .mul (.tmp 17) (.const (.int .i64 8)), none, 0, false⟩,
 ⟨(some 19), .bin .sub (.const (.int .i64 8)) (.tmp 18), none, 0, false⟩,
 ⟨(some 20), .bin .shl (.tmp 15) (.tmp 19), none, 0, false⟩,
 ⟨(some 21), .bin .add (.tmp 13) (.tmp 20), none, 0, false⟩,
 ⟨(some 3), .move (.tmp 21), none, 0, false⟩])))
 (.region [⟨(some 22), .bin .add (.tmp 8) (.const (.int .i64 1)), none, 0, false⟩,
 ⟨(some 8), .move (.tmp 22), none, 0, false⟩])))))))
 (.seq (.block 2 (.loop (.seq (.seq (.region [⟨(some 23), .move (.tmp 3), none, 0, false⟩,
 ⟨(some 24), .bin .gtr (.tmp 23) (.const (.int .u64 65535)), none, 0, false⟩])
 (.cond (.tmp 24) .skip
 (.exit 2)))
 (.block 3 (.region [⟨(some 25), .move (.tmp 3), none, 0, false⟩,
 ⟨(some 26), .bin .shr (.tmp 25) (.const (.int .u64 16)), none, 0, false⟩,
 ⟨(some 27), .move (.tmp 3), none, 0, false⟩,
 ⟨(some 28), .bin .and (.tmp 27) (.const (.int .u64 65535)), none, 0, false⟩,
 ⟨(some 29), .bin .add (.tmp 26) (.tmp 28), none, 0, false⟩,
 ⟨(some 3), .move (.tmp 29), none, 0, false⟩])))))
 (.seq (.region [⟨(some 30), .move (.tmp 3), none, 0, false⟩,
 ⟨(some 31), .conv (.int .u16) (.tmp 30), none, 0, false⟩,
 ⟨(some 32), .un .xor (.tmp 31), none, 0, false⟩,
 ⟨(some 2), .move (.tmp 32), none, 0, false⟩])
 .ret)))))⟩

def L198 : LFunc := ⟨15, [.cellN 2 4],
 (.seq (.region [⟨(some 2), .alloc [(.int .u8 0), (.int .u8 0), (.int .u8 0), (.int .u8 0)] 38, none, 0, false⟩])
 (.seq (.region [⟨(some 3), .move (.tmp 0), none, 0, false⟩,
 ⟨(some 4), .bin .shr (.tmp 3) (.const (.int .u64 24)), none, 0, false⟩,
 ⟨(some 5), .conv (.int .u8) (.tmp 4), none, 0, false⟩,
 ⟨(some 6), .move (.tmp 0), none, 0, false⟩,
 ⟨(some 7), .bin .shr (.tmp 6) (.const (.int .u64 16)), none, 0, false⟩,
 ⟨(some 8), .conv (.int .u8) (.tmp 7), none, 0, false⟩,
 ⟨(some 9), .move (.tmp 0), none, 0, false⟩,
 ⟨(some 10), .bin .shr (.tmp 9) (.const (.int .u64 8)), none, 0, false⟩,
 ⟨(some 11), .conv (.int .u8) (.tmp 10), none, 0, false⟩,
 ⟨(some 12), .move (.tmp 0), none, 0, false⟩,
 ⟨(some 13), .conv (.int .u8) (.tmp 12), none, 0, false⟩,
 ⟨(some 14), .build [(.int .u8 0), (.int .u8 0), (.int .u8 0), (.int .u8 0)] [(0, 1, (.tmp 5)), (1, 1, (.tmp 8)), (2, 1, (.tmp 11)), (3, 1, (.tmp 13))], none, 0, false⟩,
 ⟨none, .store 4 (.tmp 2) (.tmp 14), none, 0, false⟩])
 .ret))⟩

def L199 : LFunc := ⟨8, [.tmp 2],
 (.seq (.region [⟨(some 2), .move (.const (.int .u32 0)), none, 0, false⟩])
 (.seq (.region [⟨(some 3), .move (.tmp 0), none, 0, false⟩,
 ⟨(some 4), .min [(.tmp 3), (.const (.int .i64 32))], none, 0, false⟩,
 ⟨(some 5), .max [(.const (.int .i64 0)), (.tmp 4)], none, 0, false⟩,
 ⟨(some 6), .bin .sub (.const (.int .i64 32)) (.tmp 5), none, 0, false⟩,
 ⟨(some 7), .bin .shl (.const (.int .u32 4294967295)) (.tmp 6), none, 0, false⟩,
 ⟨(some 2), .move (.tmp 7), none, 0, false⟩])
 .ret))⟩

def L200 : LFunc := ⟨17, [.tmp 4],
 (.seq (.region [⟨(some 4), .move (.const (.int .i64 0)), none, 0, false⟩])
 (.seq (.draw [⟨(some 5), .move (.tmp 0), none, 0, false⟩,
 ⟨(some 6), .nilCheck (.tmp 5), none, 0, false⟩,
 ⟨(some 7), .fieldAddr 1 (.tmp 6), none, 0, false⟩,
 ⟨(some 8), .load1 (.tmp 7), none, 0, false⟩,
 ⟨(some 9), .move (.tmp 1), none, 0, false⟩,
 ⟨(some 10), .bin .add (.tmp 8) (.tmp 9), none, 0, false⟩,
 ⟨(some 11), .move (.tmp 0), none, 0, false⟩,
 ⟨(some 12), .nilCheck (.tmp 11), none, 0, false⟩,
 ⟨(some 13), .fieldAddr 0 (.tmp 12), none, 0, false⟩,
 ⟨(some 14), .load1 (.tmp 13), none, 0, false⟩,
 ⟨(some 15), .len false (.tmp 14), none, 0, false⟩,
 ⟨(some 16), .bin .rem (.tmp 10) (.tmp 15), none, 0, false⟩,
 ⟨(some 4), .move (.tmp 16), none, 0, false⟩])
 .ret))⟩

def L201 : LFunc := ⟨19, [.tmp 4],
 (.seq (.region [⟨(some 4), .move (.const (.int .i64 0)), none, 0, false⟩])
 (.seq (.seq (.region [⟨(some 6), .move (.tmp 0), none, 0, false⟩,
 ⟨(some 7), .len false (.tmp 6), none, 0, false⟩,
 ⟨(some 8), .move (.const (.int .i64 0)), none, 0, false⟩])
 (.block 0 (.loop (.seq (.region [⟨(some 9), .bin .lss (.tmp 8) (.tmp 7), none, 0, false⟩])
 (.seq (.cond (.tmp 9) .skip
 (.exit 0))
 (.seq (.block 1 (.seq (.region [⟨(some 10), .move (.tmp 8), none, 0, false⟩,
 ⟨(some 5), .move (.tmp 10), none, 0, false⟩])
 (.seq (.region [⟨(some 11), .move (.tmp 1), none, 0, false⟩,
 ⟨(some 12), .move (.tmp 0), none, 0, false⟩,
 ⟨(some 13), .move (.tmp 5), none, 0, false⟩,
 ⟨(some 14), .indexAddr 1 (.tmp 12) (.tmp 13), none, 0, false⟩,
 ⟨(some 15), .load1 (.tmp 14), none, 0, false⟩,
 ⟨(some 16), .bin .eql (.tmp 11) (.tmp 15), none, 0, false⟩])
 (.cond (.tmp 16) (.seq (.region [⟨(some 17), .move (.tmp 5), none, 0, false⟩,
 ⟨(some 4), .move (.tmp 17), none, 0, false⟩])
 .ret)
 .skip))))
 (.region [⟨(some 18), .bin .add (.tmp 8) (.const (.int .i64 1)), none, 0, false⟩,
 ⟨(some 8), .move (.tmp 18), none, 0, false⟩])))))))
 (.seq (.region [⟨(some 4), .move (.const (.int .i64 (-1))), none, 0, false⟩])
 .ret)))⟩

def L202 : LFunc := ⟨10, [.tmp 2],
 (.seq (.region [⟨(some 2), .move (.const (.slice none 0 0)), none, 0, false⟩])
 (.seq (.region [⟨(some 3), .move (.tmp 0), none, 0, false⟩,
 ⟨(some 4), .bin .quo (.tmp 3) (.const (.int .i64 256)), none, 0, false⟩,
 ⟨(some 5), .conv (.int .u8) (.tmp 4), none, 0, false⟩,
 ⟨(some 6), .move (.tmp 0), none, 0, false⟩,
 ⟨(some 7), .bin .rem (.tmp 6) (.const (.int .i64 256)), none, 0, false⟩,
 ⟨(some 8), .conv (.int .u8) (.tmp 7), none, 0, false⟩,
 ⟨(some 9), .buildSlice 2 1 5 [(.int .u8 0), (.int .u8 0)] [(0, 1, (.tmp 5)), (1, 1, (.tmp 8))], none, 0, false⟩,
 ⟨(some 2), .move (.tmp 9), none, 0, false⟩])
 .ret))⟩

def L203 : LFunc := ⟨26, [.tmp 2],
 (.seq (.region [⟨(some 2), .move (.const (.pointer none)), none, 0, false⟩])
 (.seq (.seq (.region [⟨(some 4), .move (.tmp 0), none, 0, false⟩,
 ⟨(some 5), .nilCheck (.tmp 4), none, 0, false⟩,
 ⟨(some 6), .fieldAddr 1 (.tmp 5), none, 0, false⟩,
 ⟨(some 7), .load1 (.tmp 6), none, 0, false⟩,
 ⟨(some 8), .len false (.tmp 7), none, 0, false⟩,
 ⟨(some 9), .bin .eql (.tmp 8) (.const (.int .i64 0)), none, 0, false⟩])
 (.cond (.tmp 9) (.seq (.region [⟨(some 2), .move (.const (.pointer none)), none, 0, false⟩])
 .ret)
 .skip))
 (.seq (.seq (.draw [⟨(some 10), .move (.tmp 0), none, 0, false⟩,
 ⟨(some 11), .nilCheck (.tmp 10), none, 0, false⟩,
 ⟨(some 12), .fieldAddr 0 (.tmp 11), none, 0, false⟩,
 ⟨(some 13), .load1 (.tmp 12), none, 0, false⟩,
 ⟨(some 14), .move (.tmp 0), none, 0, false⟩,
 ⟨(some 15), .nilCheck (.tmp 14), none, 0, false⟩,
 ⟨(some 16), .fieldAddr 1 (.tmp 15), none, 0, false⟩,
 ⟨(some 17), .load1 (.tmp 16), none, 0, false⟩,
 ⟨(some 18), .indexAddr 1 (.tmp 17) (.const (.int .i64 0)), none, 0, false⟩,
 ⟨(some 19), .load1 (.tmp 18), none, 0, false⟩,
 ⟨(some 20), .lookup (.prim .n) (.pointer none) false (.tmp 13) (.tmp 19), none, 0, false⟩,
 ⟨(some 3), .move (.tmp 20), none, 0, false⟩])
 (.seq (.region [⟨(some 21), .move (.tmp 3), none, 0, false⟩,
 ⟨(some 22), .nilCheck (.tmp 21), none, 0, false⟩,
 ⟨(some 23), .fieldAddr 2 (.tmp 22), none, 0, false⟩,
 ⟨(some 24), .load1 (.tmp 23), none, 0, false⟩])
 (.cond (.tmp 24) (.seq (.region [⟨(some 25), .move (.tmp 3), none, 0, false⟩,
 ⟨(some 2), .move (.tmp 25), none, 0, false⟩])
 .ret)
 .skip)))
 (.seq (.region [⟨(some 2), .move (.const (.pointer none)), none, 0, false⟩])
 .ret))))⟩

def L204 : LFunc := ⟨33, [.tmp 6],
 (.seq (.region [⟨(some 6), .move (.const (.slice none 0 0)), none, 0, false⟩])
 (.seq (.region [⟨(some 8), .move (.tmp 0), none, 0, false⟩,
 ⟨(some 9), .move (.tmp 1), none, 0, false⟩,
 ⟨(some 10), .move (.tmp 2), none, 0, false⟩,
 ⟨(some 11), .move (.tmp 0), none, 0, false⟩,
 ⟨(some 12), .len false (.tmp 11), none, 0, false⟩,
 ⟨(some 13), .slice 1 (.tmp 8) (some (.tmp 9)) (some (.tmp 10)) (some (.tmp 12)), none, 0, false⟩])
 (.seq (.seq (.region [⟨(some 14), .move (.tmp 1), none, 0, false⟩,
 ⟨(some 15), .move (.tmp 2), none, 0, false⟩,
 ⟨(some 16), .bin .eql (.tmp 14) (.tmp 15), none, 0, false⟩])
 (.cond (.tmp 16) (.seq (.region [⟨(some 17), .move (.tmp 0), none, 0, false⟩,
 ⟨(some 6), .move (.tmp 17), none, 0, false⟩])
 .ret)
 .skip))
 (.seq (.region [⟨(some 18), .move (.tmp 0), none, 0, false⟩,
 ⟨(some 19), .len false (.tmp 18), none, 0, false⟩,
 ⟨(some 7), .move (.tmp 19), none, 0, false⟩])
 (.seq (.draw [⟨(some 20), .move (.tmp 0), none, 0, false⟩,
 ⟨(some 21), .move (.tmp 1), none, 0, false⟩,
 ⟨(some 22), .slice 1 (.tmp 20) none (some (.tmp 21)) none, none, 0, false⟩,
 ⟨(some 23), .move (.tmp 0), none, 0, false⟩,
 ⟨(some 24), .move (.tmp 2), none, 0, false⟩,
 ⟨(some 25), .slice 1 (.tmp 23) (some (.tmp 24)) none none, none, 0, false⟩,
 ⟨(some 26), .append 1 8 3 [(.int .i64 0)] false (.tmp 22) (.tmp 25), none, 0, true⟩,
 ⟨(some 0), .move (.tmp 26), none, 1, false⟩])
 (.seq (.region [⟨(some 27), .move (.tmp 0), none, 0, false⟩,
 ⟨(some 28), .move (.tmp 0), none, 0, false⟩,
 ⟨(some 29), .len false (.tmp 28), none, 0, false⟩,
 ⟨(some 30), .move (.tmp 7), none, 0, false⟩,
 ⟨(some 31), .slice 1 (.tmp 27) (some (.tmp 29)) (some (.tmp 30)) none, none, 0, false⟩,
 ⟨none, .clearSlice [(.int .i64 0)] (.tmp 31), none, 0, false⟩])
 (.seq (.region [⟨(some 32), .move (.tmp 0), none, 0, false⟩,
 ⟨(some 6), .move (.tmp 32), none, 0, false⟩])
 .ret)))))))⟩

def L205 : LFunc := ⟨10, [.tmp 4],
 (.seq (.region [⟨(some 4), .move (.const (.int .u64 0)), none, 0, false⟩])
 (.seq (.region [⟨(some 5), .move (.tmp 0), none, 0, false⟩,
 ⟨(some 6), .move (.tmp 0), none, 0, false⟩,
 ⟨(some 7), .move (.tmp 1), none, 0, false⟩,
 ⟨(some 8), .min [(.tmp 6), (.tmp 7)], none, 0, false⟩,
 ⟨(some 9), .bin .sub (.tmp 5) (.tmp 8), none, 0, false⟩,
 ⟨(some 4), .move (.tmp 9), none, 0, false⟩])
 .ret))⟩

def L206 : LFunc := ⟨39, [.tmp 4],
 (.seq (.region [⟨(some 4), .move (.const (.int .u64 0)), none, 0, false⟩])
 (.seq (.block 0 (.seq (.region [⟨(some 6), .move (.tmp 0), none, 0, false⟩,
 ⟨(some 7), .move (.tmp 1), none, 0, false⟩,
 ⟨(some 8), .call (.func 142) [(.tmp 6), (.tmp 7)], none, 0, false⟩,
 ⟨(some 5), .move (.tmp 8), none, 0, false⟩])
 (.cond (.tmp 5) (.seq (.region [⟨(some 9), .move (.tmp 0), none, 0, false⟩,
 ⟨(some 10), .nilCheck (.tmp 9), none, 0, false⟩,
 ⟨(some 11), .fieldAddr 2 (.tmp 10), none, 0, false⟩,
 ⟨(some 12), .load1 (.tmp 11), none, 0, false⟩,
 ⟨(some 4), .move (.tmp 12), none, 0, false⟩])
 .ret)
 (.seq (.region [⟨(some 14), .move (.tmp 0), none, 0, false⟩,
 ⟨(some 15), .move (.tmp 1), none, 0, false⟩,
 ⟨(some 16), .call (.func 143) [(.tmp 14), (.tmp 15)], none, 0, false⟩,
 ⟨(some 17), .un .not (.tmp 16), none, 0, false⟩,
 ⟨(some 13), .move (.tmp 17), none, 0, false⟩])
 (.cond (.tmp 13) (.seq (.region [⟨(some 4), .move (.const (.int .u64 0)), none, 0, false⟩])
 .ret)
 .skip)))))
 (.seq (.draw [⟨(some 18), .move (.tmp 0), none, 0, false⟩,
 ⟨(some 19), .nilCheck (.tmp 18), none, 0, false⟩,
 ⟨(some 20), .fieldAddr 3 (.tmp 19), none, 0, false⟩,
 ⟨(some 21), .load1 (.tmp 20), none, 0, false⟩,
 ⟨(some 22), .move (.tmp 0), none, 0, false⟩,
 ⟨(some 23), .nilCheck (.tmp 22), none, 0, false⟩,
 ⟨(some 24), .fieldAddr 1 (.tmp 23), none, 0, false⟩,
 ⟨(some 25), .load1 (.tmp 24), none, 0, false⟩,
 ⟨(some 26), .bin .add (.tmp 21) (.tmp 25), none, 0, false⟩,
 ⟨(some 27), .move (.tmp 0), none, 0, false⟩,
 ⟨(some 28), .nilCheck (.tmp 27), none, 0, false⟩,
 ⟨(some 29), .fieldAddr 0 (.tmp 28), none, 0, false⟩,
 ⟨(some 30), .load1 (.tmp 29), none, 0, false⟩,
 ⟨(some 31), .min [(.tmp 26), (.tmp 30)], none, 0, false⟩,
 ⟨(some 32), .move (.tmp 0), none, 0, false⟩,
 ⟨(some 33), .nilCheck (.tmp 32), none, 0, false⟩,
 ⟨(some 34), .fieldAddr 3 (.tmp 33), none, 0, false⟩,
 ⟨(some 35), .load1 (.tmp 34), none, 0, false⟩,
 ⟨(some 36), .move (.tmp 1), none, 0, false⟩,
 ⟨(some 37), .bin .add (.tmp 35) (.tmp 36), none, 0, false⟩,
 ⟨(some 38), .max [(.tmp 31), (.tmp 37)], none, 0, false⟩,
 ⟨(some 4), .move (.tmp 38), none, 0, false⟩])
 .ret)))⟩

def L207 : LFunc := ⟨23, [.tmp 4],
 (.seq (.region [⟨(some 4), .move (.const (.int .i64 0)), none, 0, false⟩])
 (.seq (.seq (.region [⟨(some 5), .move (.tmp 1), none, 0, false⟩,
 ⟨(some 6), .move (.tmp 0), none, 0, false⟩,
 ⟨(some 7), .nilCheck (.tmp 6), none, 0, false⟩,
 ⟨(some 8), .fieldAddr 2 (.tmp 7), none, 0, false⟩,
 ⟨(some 9), .load1 (.tmp 8), none, 0, false⟩,
 ⟨(some 10), .bin .lss (.tmp 5) (.tmp 9), none, 0, false⟩,
 ⟨(some 11), .move (.tmp 10), none, 0, false⟩,
 ⟨(some 12), .move (.tmp 1), (some (11, false)), 0, false⟩,
 ⟨(some 13), .move (.tmp 0), (some (11, false)), 0, false⟩,
 ⟨(some 14), .nilCheck (.tmp 13), (some (11, false)), 0, false⟩,
 ⟨(some 15), .fieldAddr 0 (.tmp 14), (some (11, false)), 0, false⟩,
 ⟨(some 16), .load1 (.tmp 15), (some (11, false)), 0, false⟩,
 ⟨(some 17), .bin .gtr (.tmp 12) (.tmp 16), (some (11, false)), 0, false⟩,
 ⟨(some 18), .pick (.tmp 11) (.const (.bool true)) (.tmp 17), none, 0, false⟩])
 (.cond (.tmp 18) (.seq (.region [⟨(some 4), .move (.const (.int .i64 181)), none, 0, false⟩])
 .ret)
 .skip))
 (.seq (.region [⟨(some 19), .move (.tmp 0), none, 0, false⟩,
 ⟨(some 20), .move (.tmp 1), none, 0, false⟩,
 ⟨(some 21), .nilCheck (.tmp 19), none, 0, false⟩,
 ⟨(some 22), .fieldAddr 2 (.tmp 21), none, 0, false⟩,
 ⟨none, .store 1 (.tmp 22) (.tmp 20), none, 0, false⟩])
 (.seq (.region [⟨(some 4), .move (.const (.int .i64 0)), none, 0, false⟩])
 .ret))))⟩

def L208 : LFunc := ⟨19, [.tmp 4],
 (.seq (.region [⟨(some 4), .move (.const (.bool false)), none, 0, false⟩])
 (.seq (.region [⟨(some 6), .move (.tmp 0), none, 0, false⟩,
 ⟨(some 7), .move (.tmp 1), none, 0, false⟩,
 ⟨(some 8), .call (.func 142) [(.tmp 6), (.tmp 7)], none, 0, false⟩,
 ⟨(some 5), .move (.tmp 8), none, 0, false⟩])
 (.seq (.seq (.region [⟨(some 9), .move (.tmp 5), none, 0, false⟩])
 (.cond (.tmp 9) (.region [⟨(some 10), .move (.tmp 0), none, 0, false⟩,
 ⟨(some 11), .nilCheck (.tmp 10), none, 0, false⟩,
 ⟨(some 12), .fieldAddr 3 (.tmp 11), none, 0, false⟩,
 ⟨(some 13), .load1 (.tmp 12), none, 0, false⟩,
 ⟨(some 14), .move (.tmp 1), none, 0, false⟩,
 ⟨(some 15), .bin .add (.tmp 13) (.tmp 14), none, 0, false⟩,
 ⟨(some 16), .nilCheck (.tmp 10), none, 0, false⟩,
 ⟨(some 17), .fieldAddr 3 (.tmp 16), none, 0, false⟩,
 ⟨none, .store 1 (.tmp 17) (.tmp 15), none, 0, false⟩])
 .skip))
 (.seq (.region [⟨(some 18), .move (.tmp 5), none, 0, false⟩,
 ⟨(some 4), .move (.tmp 18), none, 0, false⟩])
 .ret))))⟩

def L209 : LFunc := ⟨37, [.tmp 2, .tmp 3],
 (.seq (.region [⟨(some 2), .move (.const (.slice none 0 0)), none, 0, false⟩,
 ⟨(some 3), .move (.const (.bool false)), none, 0, false⟩])
 (.seq (.region [⟨(some 8), .move (.tmp 0), none, 0, false⟩,
 ⟨(some 9), .call (.func 140) [(.tmp 8)], none, 0, false⟩,
 ⟨(some 7), .move (.tmp 9), none, 0, false⟩,
 ⟨(some 10), .extract (.tmp 7) 0, none, 0, false⟩,
 ⟨(some 11), .extract (.tmp 7) 1, none, 0, false⟩,
 ⟨(some 4), .move (.tmp 10), none, 0, false⟩,
 ⟨(some 5), .move (.tmp 11), none, 0, false⟩])
 (.seq (.seq (.region [⟨(some 12), .move (.tmp 5), none, 0, false⟩])
 (.cond (.tmp 12) (.seq (.region [⟨(some 6), .move (.const (.slice none 0 0)), none, 0, false⟩])
 (.seq (.draw [⟨(some 13), .move (.tmp 0), none, 0, false⟩,
 ⟨(some 14), .nilCheck (.tmp 13), none, 0, false⟩,
 ⟨(some 15), .fieldAddr 0 (.tmp 14), none, 0, false⟩,
 ⟨(some 16), .load1 (.tmp 15), none, 0, false⟩,
 ⟨(some 17), .move (.tmp 0), none, 0, false⟩,
 ⟨(some 18), .nilCheck (.tmp 17), none, 0, false⟩,
 ⟨(some 19), .fieldAddr 1 (.tmp 18), none, 0, false⟩,
 ⟨(some 20), .load1 (.tmp 19), none, 0, false⟩,
 ⟨(some 21), .move (.tmp 6), none, 0, false⟩,
 ⟨(some 22), .indexAddr 1 (.tmp 16) (.tmp 20), none, 0, false⟩,
 ⟨none, .store 1 (.tmp 22) (.tmp 21), none, 0, true⟩])
 (.seq (.region [⟨(some 23), .move (.tmp 0), none, 0, false⟩,
 ⟨(some 24), .move (.tmp 0), none, 0, false⟩,
 ⟨(some 25), .call (.func 200) [(.tmp 24), (.const (.int .i64 1))], none, 0, false⟩,
 ⟨(some 26), .nilCheck (.tmp 23), none, 0, false⟩,
 ⟨(some 27), .fieldAddr 1 (.tmp 26), none, 0, false⟩,
 ⟨none, .store 1 (.tmp 27) (.tmp 25), none, 0, false⟩])
 (.region [⟨(some 28), .move (.tmp 0), none, 0, false⟩,
 ⟨(some 29), .nilCheck (.tmp 28), none, 0, false⟩,
 ⟨(some 30), .fieldAddr 2 (.tmp 29), none, 0, false⟩,
 ⟨(some 31), .load1 (.tmp 30), none, 0, false⟩,
 ⟨(some 32), .bin .sub (.tmp 31) (.const (.int .i64 1)), none, 0, false⟩,
 ⟨(some 33), .nilCheck (.tmp 28), none, 0, false⟩,
 ⟨(some 34), .fieldAddr 2 (.tmp 33), none, 0, false⟩,
 ⟨none, .store 1 (.tmp 34) (.tmp 32), none, 0, false⟩]))))
 .skip))
 (.seq (.region [⟨(some 35), .move (.tmp 4), none, 0, false⟩,
 ⟨(some 36), .move (.tmp 5), none, 0, false⟩,
 ⟨(some 2), .move (.tmp 35), none, 0, false⟩,
 ⟨(some 3), .move (.tmp 36), none, 0, false⟩])
 .ret))))⟩

def L210 : LFunc := ⟨49, [],
 (.seq (.region [⟨(some 8), .move (.tmp 1), none, 0, false⟩,
 ⟨(some 9), .bin .add (.tmp 8) (.const (.int .i64 1)), none, 0, false⟩,
 ⟨(some 6), .move (.tmp 9), none, 0, false⟩])
 (.block 0 (.loop (.seq (.seq (.region [⟨(some 10), .move (.tmp 6), none, 0, false⟩,
 ⟨(some 11), .move (.tmp 2), none, 0, false⟩,
 ⟨(some 12), .bin .lss (.tmp 10) (.tmp 11), none, 0, false⟩])
 (.cond (.tmp 12) .skip
 (.exit 0)))
 (.seq (.block 1 (.seq (.region [⟨(some 15), .move (.tmp 6), none, 0, false⟩,
 ⟨(some 7), .move (.tmp 15), none, 0, false⟩])
 (.block 2 (.loop (.seq (.seq (.draw [⟨(some 16), .move (.tmp 7), none, 0, false⟩,
 ⟨(some 17), .move (.tmp 1), none, 0, false⟩,
 ⟨(some 18), .bin .gtr (.tmp 16) (.tmp 17), none, 0, false⟩,
 ⟨(some 19), .move (.tmp 18), none, 0, false⟩,
 ⟨(some 20), .move (.tmp 0), (some (19, true)), 0, false⟩,
 ⟨(some 21), .move (.tmp 7), (some (19, true)), 0, false⟩,
 ⟨(some 22), .indexAddr 1 (.tmp 20) (.tmp 21), (some (19, true)), 0, false⟩,
 ⟨(some 23), .load1 (.tmp 22), (some (19, true)), 0, false⟩,
 ⟨(some 24), .move (.tmp 0), (some (19, true)), 0, false⟩,
 ⟨(some 25), .move (.tmp 7), (some (19, true)), 0, false⟩,
 ⟨(some 26), .bin .sub (.tmp 25) (.const (.int .i64 1)), (some (19, true)), 0, false⟩,
 ⟨(some 27), .indexAddr 1 (.tmp 24) (.tmp 26), (some (19, true)), 0, false⟩,
 ⟨(some 28), .load1 (.tmp 27), (some (19, true)), 0, false⟩,
 ⟨(some 29), .call (.func 216) [(.tmp 23), (.tmp 28)], (some (19, true)), 0, true⟩,
 ⟨(some 30), .pick (.tmp 19) (.tmp 29) (.const (.bool false)), none, 1, false⟩])
 (.cond (.tmp 30) .skip
 (.exit 2)))
 (.seq (.block 3 (.draw [⟨(some 33), .move (.tmp 0), none, 0, false⟩,
 ⟨(some 34), .move (.tmp 7), none, 0, false⟩,
 ⟨(some 38), .move (.tmp 0), none, 0, false⟩,
 ⟨(some 39), .move (.tmp 7), none, 0, false⟩,
 ⟨(some 40), .bin .sub (.tmp 39) (.const (.int .i64 1)), none, 0, false⟩,
 ⟨(some 41), .indexAddr 1 (.tmp 38) (.tmp 40), none, 0, false⟩,
 ⟨(some 42), .load1 (.tmp 41), none, 0, false⟩,
 ⟨(some 43), .move (.tmp 0), none, 0, false⟩,
 ⟨(some 44), .move (.tmp 7), none, 0, false⟩,
 ⟨(some 45), .indexAddr 1 (.tmp 43) (.tmp 44), none, 0, false⟩,
 ⟨(some 46), .load1 (.tmp 45), none, 0, false⟩,
 ⟨(some 47), .indexAddr 1 (.tmp 33) (.tmp 34), none, 0, false⟩,
 ⟨none, .store 1 (.tmp 47) (.tmp 42), none, 0, true⟩,
 ⟨(some 35), .move (.tmp 0), none, 0, false⟩,
 ⟨(some 36), .move (.tmp 7), none, 0, false⟩,
 ⟨(some 37), .bin .sub (.tmp 36) (.const (.int .i64 1)), none, 0, false⟩,
 ⟨(some 48), .indexAddr 1 (.tmp 35) (.tmp 37), none, 1, false⟩,
 ⟨none, .store 1 (.tmp 48) (.tmp 46), none, 1, true⟩]))
 (.region [⟨(some 31), .move (.tmp 7), none, 0, false⟩,
 ⟨(some 32), .bin .sub (.tmp 31) (.const (.int .i64 1)), none, 0, false⟩,
 ⟨(some 7), .move (.tmp 32), none, 0, false⟩])))))))
 (.region [⟨(some 13), .move (.tmp 6), none, 0, false⟩,
 ⟨(some 14), .bin .add (.tmp 13) (.const (.int .i64 1)), none, 0, false⟩,
 ⟨(some 6), .move (.tmp 14), none, 0, false⟩]))))))⟩

def L211 : LFunc := ⟨56, [],
 (.seq (.region [⟨(some 11), .move (.tmp 1), none, 0, false⟩,
 ⟨(some 6), .move (.tmp 11), none, 0, false⟩])
 (.seq (.region [⟨(some 7), .move (.const (.int .i64 0)), none, 0, false⟩])
 (.seq (.region [⟨(some 12), .move (.tmp 2), none, 0, false⟩,
 ⟨(some 13), .move (.tmp 1), none, 0, false⟩,
 ⟨(some 14), .bin .sub (.tmp 12) (.tmp 13), none, 0, false⟩,
 ⟨(some 8), .move (.tmp 14), none, 0, false⟩])
 (.seq (.seq (.region [⟨(some 15), .move (.tmp 8), none, 0, false⟩,
 ⟨(some 16), .bin .sub (.tmp 15) (.const (.int .i64 1)), none, 0, false⟩,
 ⟨(some 17), .bin .quo (.tmp 16) (.const (.int .i64 2)), none, 0, false⟩,
 ⟨(some 9), .move (.tmp 17), none, 0, false⟩])
 (.block 0 (.loop (.seq (.seq (.region [⟨(some 18), .move (.tmp 9), none, 0, false⟩,
 ⟨(some 19), .bin .geq (.tmp 18) (.const (.int .i64 0)), none, 0, false⟩])
 (.cond (.tmp 19) .skip
 (.exit 0)))
 (.seq (.block 1 (.region [⟨(some 22), .move (.tmp 0), none, 0, false⟩,
 ⟨(some 23), .move (.tmp 9), none, 0, false⟩,
 ⟨(some 24), .move (.tmp 8), none, 0, false⟩,
 ⟨(some 25), .move (.tmp 6), none, 0, false⟩,
 ⟨(some 26), .call (.func 245) [(.tmp 22), (.tmp 23), (.tmp 24), (.tmp 25)], none, 0, false⟩]))
 (.region [⟨(some 20), .move (.tmp 9), none, 0, false⟩,
 ⟨(some 21), .bin .sub (.tmp 20) (.const (.int .i64 1)), none, 0, false⟩,
 ⟨(some 9), .move (.tmp 21), none, 0, false⟩]))))))
 (.seq (.region [⟨(some 27), .move (.tmp 8), none, 0, false⟩,
 ⟨(some 28), .bin .sub (.tmp 27) (.const (.int .i64 1)), none, 0, false⟩,
 ⟨(some 10), .move (.tmp 28), none, 0, false⟩])
 (.block 2 (.loop (.seq (.seq (.region [⟨(some 29), .move (.tmp 10), none, 0, false⟩,
 ⟨(some 30), .bin .geq (.tmp 29) (.const (.int .i64 0)), none, 0, false⟩])
 (.cond (.tmp 30) .skip
 (.exit 2)))
 (.seq (.block 3 (.seq (.draw [⟨(some 33), .move (.tmp 0), none, 0, false⟩,
 ⟨(some 34), .move (.tmp 6), none, 0, false⟩,
 ⟨(some 39), .move (.tmp 0), none, 0, false⟩,
 ⟨(some 40), .move (.tmp 6), none, 0, false⟩,
 ⟨(some 41), .move (.tmp 10), none, 0, false⟩,
 ⟨(some 42), .bin .add (.tmp 40) (.tmp 41), none, 0, false⟩,
 ⟨(some 43), .indexAddr 1 (.tmp 39) (.tmp 42), none, 0, false⟩,
 ⟨(some 44), .load1 (.tmp 43), none, 0, false⟩,
 ⟨(some 45), .move (.tmp 0), none, 0, false⟩,
 ⟨(some 46), .move (.tmp 6), none, 0, false⟩,
 ⟨(some 47), .indexAddr 1 (.tmp 45) (.tmp 46), none, 0, false⟩,
 ⟨(some 48), .load1 (.tmp 47), none, 0, false⟩,
 ⟨(some 49), .indexAddr 1 (.tmp 33) (.tmp 34), none, 0, false⟩,
 ⟨none, .store 1 (.tmp 49) (.tmp 44), none, 0, true⟩,
 ⟨(some 35), .move (.tmp 0), none, 0, false⟩,
 ⟨(some 36), .move (.tmp 6), none, 0, false⟩,
 ⟨(some 37), .move (.tmp 10), none, 0, false⟩,
 ⟨(some 38), .bin .add (.tmp 36) (.tmp 37), none, 0, false⟩,
 ⟨(some 50), .indexAddr 1 (.tmp 35) (.tmp 38), none, 1, false⟩,
 ⟨none, .store 1 (.tmp 50) (.tmp 48), none, 1, true⟩])
 (.region [⟨(some 51), .move (.tmp 0), none, 0, false⟩,
 ⟨(some 52), .move (.tmp 7), none, 0, false⟩,
 ⟨(some 53), .move (.tmp 10), none, 0, false⟩,
 ⟨(some 54), .move (.tmp 6), none, 0, false⟩,
 ⟨(some 55), .call (.func 245) [(.tmp 51), (.tmp 52), (.tmp 53), (.tmp 54)], none, 0, false⟩])))
 (.region [⟨(some 31), .move (.tmp 10), none, 0, false⟩,
 ⟨(some 32), .bin .sub (.tmp 31) (.const (.int .i64 1)), none, 0, false⟩,
 ⟨(some 10), .move (.tmp 32), none, 0, false⟩]))))))))))⟩

def L212 : LFunc := ⟨65, [],
 (.seq (.region [⟨(some 11), .move (.tmp 2), none, 0, false⟩,
 ⟨(some 12), .move (.tmp 1), none, 0, false⟩,
 ⟨(some 13), .bin .sub (.tmp 11) (.tmp 12), none, 0, false⟩,
 ⟨(some 6), .move (.tmp 13), none, 0, false⟩])
 (.seq (.region [⟨(some 14), .move (.tmp 6), none, 0, false⟩,
 ⟨(some 15), .bin .geq (.tmp 14) (.const (.int .i64 8)), none, 0, false⟩])
 (.cond (.tmp 15) (.seq (.region [⟨(some 16), .move (.tmp 6), none, 0, false⟩,
 ⟨(some 17), .conv (.int .u64) (.tmp 16), none, 0, false⟩,
 ⟨(some 7), .alloc [(.int .u64 0)] 336, none, 0, false⟩,
 ⟨none, .store 1 (.tmp 7) (.tmp 17), none, 0, false⟩])
 (.seq (.region [⟨(some 18), .move (.tmp 6), none, 0, false⟩,
 ⟨(some 19), .call (.func 246) [(.tmp 18)], none, 0, false⟩,
 ⟨(some 8), .move (.tmp 19), none, 0, false⟩])
 (.seq (.region [⟨(some 20), .move (.tmp 1), none, 0, false⟩,
 ⟨(some 21), .move (.tmp 6), none, 0, false⟩,
 ⟨(some 22), .bin .quo (.tmp 21) (.const (.int .i64 4)), none, 0, false⟩,
 ⟨(some 23), .bin .mul (.tmp 22) (.const (.int .i64 2)), none, 0, false⟩,
 ⟨(some 24), .bin .add (.tmp 20) (.tmp 23), none, 0, false⟩,
 ⟨(some 25), .bin .sub (.tmp 24) (.const (.int .i64 1)), none, 0, false⟩,
 ⟨(some 9), .move (.tmp 25), none, 0, false⟩])
 (.block 0 (.loop (.seq (.seq (.region [⟨(some 26), .move (.tmp 9), none, 0, false⟩,
 ⟨(some 27), .move (.tmp 1), none, 0, false⟩,
 ⟨(some 28), .move (.tmp 6), none, 0, false⟩,
 ⟨(some 29), .bin .quo (.tmp 28) (.const (.int .i64 4)), none, 0, false⟩,
 ⟨(some 30), .bin .mul (.tmp 29) (.const (.int .i64 2)), none, 0, false⟩,
 ⟨(some 31), .bin .add (.tmp 27) (.tmp 30), none, 0, false⟩,
 ⟨(some 32), .bin .add (.tmp 31) (.const (.int .i64 1)), none, 0, false⟩,
 ⟨(some 33), .bin .leq (.tmp 26) (.tmp 32), none, 0, false⟩])
 (.cond (.tmp 33) .skip
 (.exit 0)))
 (.seq (.block 1 (.seq (.region [⟨(some 36), .call (.func 247) [(.tmp 7)], none, 0, false⟩,
 ⟨(some 37), .move (.tmp 8), none, 0, false⟩,
 ⟨(some 38), .bin .sub (.tmp 37) (.const (.int .u64 1)), none, 0, false⟩,
 ⟨(some 39), .bin .and (.tmp 36) (.tmp 38), none, 0, false⟩,
 ⟨(some 40), .conv (.int .i64) (.tmp 39), none, 0, false⟩,
 ⟨(some 10), .move (.tmp 40), none, 0, false⟩])
 (.seq (.seq (.region [⟨(some 41), .move (.tmp 10), none, 0, false⟩,
 ⟨(some 42), .move (.tmp 6), none, 0, false⟩,
 ⟨(some 43), .bin .geq (.tmp 41) (.tmp 42), none, 0, false⟩])
 (.cond (.tmp 43) (.region [⟨(some 44), .move (.tmp 10), none, 0, false⟩,
 ⟨(some 45), .move (.tmp 6), none, 0, false⟩,
 ⟨(some 46), .bin .sub (.tmp 44) (.tmp 45), none, 0, false⟩,
 ⟨(some 10), .move (.tmp 46), none, 0, false⟩])
 .skip))
 (.draw [⟨(some 47), .move (.tmp 0), none, 0, false⟩,
 ⟨(some 48), .move (.tmp 9), none, 0, false⟩,
 ⟨(some 53), .move (.tmp 0), none, 0, false⟩,
 ⟨(some 54), .move (.tmp 1), none, 0, false⟩,
 ⟨(some 55), .move (.tmp 10), none, 0, false⟩,
 ⟨(some 56), .bin .add (.tmp 54) (.tmp 55), none, 0, false⟩,
 ⟨(some 57), .indexAddr 1 (.tmp 53) (.tmp 56), none, 0, false⟩,
 ⟨(some 58), .load1 (.tmp 57), none, 0, false⟩,
 ⟨(some 59), .move (.tmp 0), none, 0, false⟩,
 ⟨(some 60), .move (.tmp 9), none, 0, false⟩,
 ⟨(some 61), .indexAddr 1 (.tmp 59) (.tmp 60), none, 0, false⟩,
 ⟨(some 62), .load1 (.tmp 61), none, 0, false⟩,
 ⟨(some 63), .indexAddr 1 (.tmp 47) (.tmp 48), none, 0, false⟩,
 ⟨none, .store 1 (.tmp 63) (.tmp 58), none, 0, true⟩,
 ⟨(some 49), .move (.tmp 0), none, 0, false⟩,
 ⟨(some 50), .move (.tmp 1), none, 0, false⟩,
 ⟨(some 51), .move (.tmp 10), none, 0, false⟩,
 ⟨(some 52), .bin .add (.tmp 50) (.tmp 51), none, 0, false⟩,
 ⟨(some 64), .indexAddr 1 (.tmp 49) (.tmp 52), none, 1, false⟩,
 ⟨none, .store 1 (.tmp 64) (.tmp 62), none, 1, true⟩]))))
 (.region [⟨(some 34), .move (.tmp 9), none, 0, false⟩,
 ⟨(some 35), .bin .add (.tmp 34) (.const (.int .i64 1)), none, 0, false⟩,
 ⟨(some 9), .move (.tmp 35), none, 0, false⟩]))))))))
 .skip)))⟩

def L213 : LFunc := ⟨57, [.tmp 6, .tmp 7],
 (.seq (.region [⟨(some 6), .move (.const (.int .i64 0)), none, 0, false⟩,
 ⟨(some 7), .move (.const (.int .i64 0)), none, 0, false⟩])
 (.seq (.region [⟨(some 13), .move (.tmp 2), none, 0, false⟩,
 ⟨(some 14), .move (.tmp 1), none, 0, false⟩,
 ⟨(some 15), .bin .sub (.tmp 13) (.tmp 14), none, 0, false⟩,
 ⟨(some 8), .move (.tmp 15), none, 0, false⟩])
 (.seq (.region [⟨(some 9), .alloc [(.int .i64 0)] 3, none, 0, false⟩])
 (.seq (.region [⟨(some 16), .move (.tmp 1), none, 0, false⟩,
 ⟨(some 17), .move (.tmp 8), none, 0, false⟩,
 ⟨(some 18), .bin .quo (.tmp 17) (.const (.int .i64 4)), none, 0, false⟩,
 ⟨(some 19), .bin .mul (.tmp 18) (.const (.int .i64 1)), none, 0, false⟩,
 ⟨(some 20), .bin .add (.tmp 16) (.tmp 19), none, 0, false⟩,
 ⟨(some 10), .move (.tmp 20), none, 0, false⟩])
 (.seq (.region [⟨(some 21), .move (.tmp 1), none, 0, false⟩,
 ⟨(some 22), .move (.tmp 8), none, 0, false⟩,
 ⟨(some 23), .bin .quo (.tmp 22) (.const (.int .i64 4)), none, 0, false⟩,
 ⟨(some 24), .bin .mul (.tmp 23) (.const (.int .i64 2)), none, 0, false⟩,
 ⟨(some 25), .bin .add (.tmp 21) (.tmp 24), none, 0, false⟩,
 ⟨(some 11), .move (.tmp 25), none, 0, false⟩])
 (.seq (.region [⟨(some 26), .move (.tmp 1), none, 0, false⟩,
 ⟨(some 27), .move (.tmp 8), none, 0, false⟩,
 ⟨(some 28), .bin .quo (.tmp 27) (.const (.int .i64 4)), none, 0, false⟩,
 ⟨(some 29), .bin .mul (.tmp 28) (.const (.int .i64 3)), none, 0, false⟩,
 ⟨(some 30), .bin .add (.tmp 26) (.tmp 29), none, 0, false⟩,
 ⟨(some 12), .move (.tmp 30), none, 0, false⟩])
 (.seq (.seq (.region [⟨(some 31), .move (.tmp 8), none, 0, false⟩,
 ⟨(some 32), .bin .geq (.tmp 31) (.const (.int .i64 8)), none, 0, false⟩])
 (.cond (.tmp 32) (.seq (.seq (.region [⟨(some 33), .move (.tmp 8), none, 0, false⟩,
 ⟨(some 34), .bin .geq (.tmp 33) (.const (.int .i64 50)), none, 0, false⟩])
 (.cond (.tmp 34) (.seq (.region [⟨(some 35), .move (.tmp 0), none, 0, false⟩,
 ⟨(some 36), .move (.tmp 10), none, 0, false⟩,
 ⟨(some 37), .call (.func 248) [(.tmp 35), (.tmp 36), (.tmp 9)], none, 0, false⟩,
 ⟨(some 10), .move (.tmp 37), none, 0, false⟩])
 (.seq (.region [⟨(some 38), .move (.tmp 0), none, 0, false⟩,
 ⟨(some 39), .move (.tmp 11), none, 0, false⟩,
 ⟨(some 40), .call (.func 248) [(.tmp 38), (.tmp 39), (.tmp 9)], none, 0, false⟩,
 ⟨(some 11), .move (.tmp 40), none, 0, false⟩])
 (.region [⟨(some 41), .move (.tmp 0), none, 0, false⟩,
 ⟨(some 42), .move (.tmp 12), none, 0, false⟩,
 ⟨(some 43), .call (.func 248) [(.tmp 41), (.tmp 42), (.tmp 9)], none, 0, false⟩,
 ⟨(some 12), .move (.tmp 43), none, 0, false⟩])))
 .skip))
 (.region [⟨(some 44), .move (.tmp 0), none, 0, false⟩,
 ⟨(some 45), .move (.tmp 10), none, 0, false⟩,
 ⟨(some 46), .move (.tmp 11), none, 0, false⟩,
 ⟨(some 47), .move (.tmp 12), none, 0, false⟩,
 ⟨(some 48), .call (.func 249) [(.tmp 44), (.tmp 45), (.tmp 46), (.tmp 47), (.tmp 9)], none, 0, false⟩,
 ⟨(some 11), .move (.tmp 48), none, 0, false⟩]))
 .skip))
 (.seq (.region [⟨(some 49), .load1 (.tmp 9), none, 0, false⟩])
 (.block 0 (.seq (.region [⟨(some 52), .bin .eql (.tmp 49) (.const (.int .i64 0)), none, 0, false⟩,
 ⟨(some 51), .move (.tmp 52), none, 0, false⟩])
 (.cond (.tmp 51) (.seq (.region [⟨(some 53), .move (.tmp 11), none, 0, false⟩,
 ⟨(some 6), .move (.tmp 53), none, 0, false⟩,
 ⟨(some 7), .move (.const (.int .i64 1)), none, 0, false⟩])
 .ret)
 (.seq (.region [⟨(some 55), .bin .eql (.tmp 49) (.const (.int .i64 12)), none, 0, false⟩,
 ⟨(some 54), .move (.tmp 55), none, 0, false⟩])
 (.cond (.tmp 54) (.seq (.region [⟨(some 56), .move (.tmp 11), none, 0, false⟩,
 ⟨(some 6), .move (.tmp 56), none, 0, false⟩,
 ⟨(some 7), .move (.const (.int .i64 2)), none, 0, false⟩])
 .ret)
 (.seq (.region [⟨(some 50), .move (.tmp 11), none, 0, false⟩,
 ⟨(some 6), .move (.tmp 50), none, 0, false⟩,
 ⟨(some 7), .move (.const (.int .i64 0)), none, 0, false⟩])
 .ret))))))))))))))⟩

def L214 : LFunc := ⟨32, [],
 (.seq (.region [⟨(some 8), .move (.tmp 1), none, 0, false⟩,
 ⟨(some 6), .move (.tmp 8), none, 0, false⟩])
 (.seq (.region [⟨(some 9), .move (.tmp 2), none, 0, false⟩,
 ⟨(some 10), .bin .sub (.tmp 9) (.const (.int .i64 1)), none, 0, false⟩,
 ⟨(some 7), .move (.tmp 10), none, 0, false⟩])
 (.block 0 (.loop (.seq (.seq (.region [⟨(some 11), .move (.tmp 6), none, 0, false⟩,
 ⟨(some 12), .move (.tmp 7), none, 0, false⟩,
 ⟨(some 13), .bin .lss (.tmp 11) (.tmp 12), none, 0, false⟩])
 (.cond (.tmp 13) .skip
 (.exit 0)))
 (.block 1 (.seq (.draw [⟨(some 14), .move (.tmp 0), none, 0, false⟩,
 ⟨(some 15), .move (.tmp 6), none, 0, false⟩,
 ⟨(some 18), .move (.tmp 0), none, 0, false⟩,
 ⟨(some 19), .move (.tmp 7), none, 0, false⟩,
 ⟨(some 20), .indexAddr 1 (.tmp 18) (.tmp 19), none, 0, false⟩,
 ⟨(some 21), .load1 (.tmp 20), none, 0, false⟩,
 ⟨(some 22), .move (.tmp 0), none, 0, false⟩,
 ⟨(some 23), .move (.tmp 6), none, 0, false⟩,
 ⟨(some 24), .indexAddr 1 (.tmp 22) (.tmp 23), none, 0, false⟩,
 ⟨(some 25), .load1 (.tmp 24), none, 0, false⟩,
 ⟨(some 26), .indexAddr 1 (.tmp 14) (.tmp 15), none, 0, false⟩,
 ⟨none, .store 1 (.tmp 26) (.tmp 21), none, 0, true⟩,
 ⟨(some 16), .move (.tmp 0), none, 0, false⟩,
 ⟨(some 17), .move (.tmp 7), none, 0, false⟩,
 ⟨(some 27), .indexAddr 1 (.tmp 16) (.tmp 17), none, 1, false⟩,
 ⟨none, .store 1 (.tmp 27) (.tmp 25), none, 1, true⟩])
 (.seq (.region [⟨(some 28), .move (.tmp 6), none, 0, false⟩,
 ⟨(some 29), .bin .add (.tmp 28) (.const (.int .i64 1)), none, 0, false⟩,
 ⟨(some 6), .move (.tmp 29), none, 0, false⟩])
 (.region [⟨(some 30), .move (.tmp 7), none, 0, false⟩,
 ⟨(some 31), .bin .sub (.tmp 30) (.const (.int .i64 1)), none, 0, false⟩,
 ⟨(some 7), .move (.tmp 31), none, 0, false⟩])))))))))⟩

def L215 : LFunc := ⟨133, [.tmp 6],
 (.seq (.region [⟨(some 6), .move (.const (.bool false)), none, 0, false⟩])
 (.seq (.region [⟨(some 11), .move (.tmp 1), none, 0, false⟩,
 ⟨(some 12), .bin .add (.tmp 11) (.const (.int .i64 1)), none, 0, false⟩,
 ⟨(some 7), .move (.tmp 12), none, 0, false⟩])
 (.seq (.seq (.region [⟨(some 8), .move (.const (.int .i64 0)), none, 0, false⟩])
 (.block 0 (.loop (.seq (.seq (.region [⟨(some 13), .move (.tmp 8), none, 0, false⟩,
 ⟨(some 14), .bin .lss (.tmp 13) (.const (.int .i64 5)), none, 0, false⟩])
 (.cond (.tmp 14) .skip
 (.exit 0)))
 (.seq (.block 1 (.seq (.block 2 (.loop (.seq (.seq (.draw [⟨(some 17), .move (.tmp 7), none, 0, false⟩,
 ⟨(some 18), .move (.tmp 2), none, 0, false⟩,
 ⟨(some 19), .bin .lss (.tmp 17) (.tmp 18), none, 0, false⟩,
 ⟨(some 20), .move (.tmp 19), none, 0, false⟩,
 ⟨(some 21), .move (.tmp 0), (some (20, true)), 0, false⟩,
 ⟨(some 22), .move (.tmp 7), (some (20, true)), 0, false⟩,
 ⟨(some 23), .indexAddr 1 (.tmp 21) (.tmp 22), (some (20, true)), 0, false⟩,
 ⟨(some 24), .load1 (.tmp 23), (some (20, true)), 0, false⟩,
 ⟨(some 25), .move (.tmp 0), (some (20, true)), 0, false⟩,
 ⟨(some 26), .move (.tmp 7), (some (20, true)), 0, false⟩,
 ⟨(some 27), .bin .sub (.tmp 26) (.const (.int .i64 1)), (some (20, true)), 0, false⟩,
 ⟨(some 28), .indexAddr 1 (.tmp 25) (.tmp 27), (some (20, true)), 0, false⟩,
 ⟨(some 29), .load1 (.tmp 28), (some (20, true)), 0, false⟩,
 ⟨(some 30), .call (.func 216) [(.tmp 24), (.tmp 29)], (some (20, true)), 0, true⟩,
 ⟨(some 31), .un .not (.tmp 30), (some (20, true)), 1, false⟩,
 ⟨(some 32), .pick (.tmp 20) (.tmp 31) (.const (.bool false)), none, 1, false⟩])
 (.cond (.tmp 32) .skip
 (.exit 2)))
 (.block 3 (.region [⟨(some 33), .move (.tmp 7), none, 0, false⟩,
 ⟨(some 34), .bin .add (.tmp 33) (.const (.int .i64 1)), none, 0, false⟩,
 ⟨(some 7), .move (.tmp 34), none, 0, false⟩])))))
 (.seq (.seq (.region [⟨(some 35), .move (.tmp 7), none, 0, false⟩,
 ⟨(some 36), .move (.tmp 2), none, 0, false⟩,
 ⟨(some 37), .bin .eql (.tmp 35) (.tmp 36), none, 0, false⟩])
 (.cond (.tmp 37) (.seq (.region [⟨(some 6), .move (.const (.bool true)), none, 0, false⟩])
 .ret)
 .skip))
 (.seq (.seq (.region [⟨(some 38), .move (.tmp 2), none, 0, false⟩,
 ⟨(some 39), .move (.tmp 1), none, 0, false⟩,
 ⟨(some 40), .bin .sub (.tmp 38) (.tmp 39), none, 0, false⟩,
 ⟨(some 41), .bin .lss (.tmp 40) (.const (.int .i64 50)), none, 0, false⟩])
 (.cond (.tmp 41) (.seq (.region [⟨(some 6), .move (.const (.bool false)), none, 0, false⟩])
 .ret)
 .skip))
 (.seq (.draw [⟨(some 42), .move (.tmp 0), none, 0, false⟩,
 ⟨(some 43), .move (.tmp 7), none, 0, false⟩,
 ⟨(some 47), .move (.tmp 0), none, 0, false⟩,
 ⟨(some 48), .move (.tmp 7), none, 0, false⟩,
 ⟨(some 49), .bin .sub (.tmp 48) (.const (.int .i64 1)), none, 0, false⟩,
 ⟨(some 50), .indexAddr 1 (.tmp 47) (.tmp 49), none, 0, false⟩,
 ⟨(some 51), .load1 (.tmp 50), none, 0, false⟩,
 ⟨(some 52), .move (.tmp 0), none, 0, false⟩,
 ⟨(some 53), .move (.tmp 7), none, 0, false⟩,
 ⟨(some 54), .indexAddr 1 (.tmp 52) (.tmp 53), none, 0, false⟩,
 ⟨(some 55), .load1 (.tmp 54), none, 0, false⟩,
 ⟨(some 56), .indexAddr 1 (.tmp 42) (.tmp 43), none, 0, false⟩,
 ⟨none, .store 1 (.tmp 56) (.tmp 51), none, 0, true⟩,
 ⟨(some 44), .move (.tmp 0), none, 0, false⟩,
 ⟨(some 45), .move (.tmp 7), none, 0, false⟩,
 ⟨(some 46), .bin .sub (.tmp 45) (.const (.int .i64 1)), none, 0, false⟩,
 ⟨(some 57), .indexAddr 1 (.tmp 44) (.tmp 46), none, 1, false⟩,
 ⟨none, .store 1 (.tmp 57) (.tmp 55), none, 1, true⟩])
 (.seq (.seq (.region [⟨(some 58), .move (.tmp 7), none, 0, false⟩,
 ⟨(some 59), .move (.tmp 1), none, 0, false⟩,
 ⟨(some 60), .bin .sub (.tmp 58) (.tmp 59), none, 0, false⟩,
 ⟨(some 61), .bin .geq (.tmp 60) (.const (.int .i64 2)), none, 0, false⟩])
 (.cond (.tmp 61) (.seq (.region [⟨(some 62), .move (.tmp 7), none, 0, false⟩,
 ⟨(some 63), .bin .sub (.tmp 62) (.const (.int .i64 1)), none, 0, false⟩,
 ⟨(some 9), .move (.tmp 63), none, 0, false⟩])
 (.block 4 (.loop (.seq (.seq (.region [⟨(some 64), .move (.tmp 9), none, 0, false⟩,
 ⟨(some 65), .bin .geq (.tmp 64) (.const (.int .i64 1)), none, 0, false⟩])
 (.cond (.tmp 65) .skip
 (.exit 4)))
 (.seq (.block 5 (.seq (.seq (.draw [⟨(some 68), .move (.tmp 0), none, 0, false⟩,
 ⟨(some 69), .move (.tmp 9), none, 0, false⟩,
 ⟨(some 70), .indexAddr 1 (.tmp 68) (.tmp 69), none, 0, false⟩,
 ⟨(some 71), .load1 (.tmp 70), none, 0, false⟩,
 ⟨(some 72), .move (.tmp 0), none, 0, false⟩,
 ⟨(some 73), .move (.tmp 9), none, 0, false⟩,
 ⟨(some 74), .bin .sub (.tmp 73) (.const (.int .i64 1)), none, 0, false⟩,
 ⟨(some 75), .indexAddr 1 (.tmp 72) (.tmp 74), none, 0, false⟩,
 ⟨(some 76), .load1 (.tmp 75), none, 0, false⟩,
 ⟨(some 77), .call (.func 216) [(.tmp 71), (.tmp 76)], none, 0, true⟩,
 ⟨(some 78), .un .not (.tmp 77), none, 1, false⟩])
 (.cond (.tmp 78) (.exit 4)
 .skip))
 (.draw [⟨(some 79), .move (.tmp 0), none, 0, false⟩,
 ⟨(some 80), .move (.tmp 9), none, 0, false⟩,
 ⟨(some 84), .move (.tmp 0), none, 0, false⟩,
 ⟨(some 85), .move (.tmp 9), none, 0, false⟩,
 ⟨(some 86), .bin .sub (.tmp 85) (.const (.int .i64 1)), none, 0, false⟩,
 ⟨(some 87), .indexAddr 1 (.tmp 84) (.tmp 86), none, 0, false⟩,
 ⟨(some 88), .load1 (.tmp 87), none, 0, false⟩,
 ⟨(some 89), .move (.tmp 0), none, 0, false⟩,
 ⟨(some 90), .move (.tmp 9), none, 0, false⟩,
 ⟨(some 91), .indexAddr 1 (.tmp 89) (.tmp 90), none, 0, false⟩,
 ⟨(some 92), .load1 (.tmp 91), none, 0, false⟩,
 ⟨(some 93), .indexAddr 1 (.tmp 79) (.tmp 80), none, 0, false⟩,
 ⟨none, .store 1 (.tmp 93) (.tmp 88), none, 0, true⟩,
 ⟨(some 81), .move (.tmp 0), none, 0, false⟩,
 ⟨(some 82), .move (.tmp 9), none, 0, false⟩,
 ⟨(some 83), .bin .sub (.tmp 82) (.const (.int .i64 1)), none, 0, false⟩,
 ⟨(some 94), .indexAddr 1 (.tmp 81) (.tmp 83), none, 1, false⟩,
 ⟨none, .store 1 (.tmp 94) (.tmp 92), none, 1, true⟩])))
 (.region [⟨(some 66), .move (.tmp 9), none, 0, false⟩,
 ⟨(some 67), .bin .sub (.tmp 66) (.const (.int .i64 1)), none, 0, false⟩,
 ⟨(some 9), .move (.tmp 67), none, 0, false⟩]))))))
 .skip))
 (.seq (.region [⟨(some 95), .move (.tmp 2), none, 0, false⟩,
 ⟨(some 96), .move (.tmp 7), none, 0, false⟩,
 ⟨(some 97), .bin .sub (.tmp 95) (.tmp 96), none, 0, false⟩,
 ⟨(some 98), .bin .geq (.tmp 97) (.const (.int .i64 2)), none, 0, false⟩])
 (.cond (.tmp 98) (.seq (.region [⟨(some 99), .move (.tmp 7), none, 0, false⟩,
 ⟨(some 100), .bin .add (.tmp 99) (.const (.int .i64 1)), none, 0, false⟩,
 ⟨(some 10), .move (.tmp 100), none, 0, false⟩])
 (.block 6 (.loop (.seq (.seq (.region [⟨(some 101), .move (.tmp 10), none, 0, false⟩,
 ⟨(some 102), .move (.tmp 2), none, 0, false⟩,
 ⟨(some 103), .bin .lss (.tmp 101) (.tmp 102), none, 0, false⟩])
 (.cond (.tmp 103) .skip
 (.exit 6)))
 (.seq (.block 7 (.seq (.seq (.draw [⟨(some 106), .move (.tmp 0), none, 0, false⟩,
 ⟨(some 107), .move (.tmp 10), none, 0, false⟩,
 ⟨(some 108), .indexAddr 1 (.tmp 106) (.tmp 107), none, 0, false⟩,
 ⟨(some 109), .load1 (.tmp 108), none, 0, false⟩,
 ⟨(some 110), .move (.tmp 0), none, 0, false⟩,
 ⟨(some 111), .move (.tmp 10), none, 0, false⟩,
 ⟨(some 112), .bin .sub (.tmp 111) (.const (.int .i64 1)), none, 0, false⟩,
 ⟨(some 113), .indexAddr 1 (.tmp 110) (.tmp 112), none, 0, false⟩,
 ⟨(some 114), .load1 (.tmp 113), none, 0, false⟩,
 ⟨(some 115), .call (.func 216) [(.tmp 109), (.tmp 114)], none, 0, true⟩,
 ⟨(some 116), .un .not (.tmp 115), none, 1, false⟩])
 (.cond (.tmp 116) (.exit 6)
 .skip))
 (.draw [⟨(some 117), .move (.tmp 0), none, 0, false⟩,
 ⟨(some 118), .move (.tmp 10), none, 0, false⟩,
 ⟨(some 122), .move (.tmp 0), none, 0, false⟩,
 ⟨(some 123), .move (.tmp 10), none, 0, false⟩,
 ⟨(some 124), .bin .sub (.tmp 123) (.const (.int .i64 1)), none, 0, false⟩,
 ⟨(some 125), .indexAddr 1 (.tmp 122) (.tmp 124), none, 0, false⟩,
 ⟨(some 126), .load1 (.tmp 125), none, 0, false⟩,
 ⟨(some 127), .move (.tmp 0), none, 0, false⟩,
 ⟨(some 128), .move (.tmp 10), none, 0, false⟩,
 ⟨(some 129), .indexAddr 1 (.tmp 127) (.tmp 128), none, 0, false⟩,
 ⟨(some 130), .load1 (.tmp 129), none, 0, false⟩,
 ⟨(some 131), .indexAddr 1 (.tmp 117) (.tmp 118), none, 0, false⟩,
 ⟨none, .store 1 (.tmp 131) (.tmp 126), none, 0, true⟩,
 ⟨(some 119), .move (.tmp 0), none, 0, false⟩,
 ⟨(some 120), .move (.tmp 10), none, 0, false⟩,
 ⟨(some 121), .bin .sub (.tmp 120) (.const (.int .i64 1)), none, 0, false⟩,
 ⟨(some 132), .indexAddr 1 (.tmp 119) (.tmp 121), none, 1, false⟩,
 ⟨none, .store 1 (.tmp 132) (.tmp 130), none, 1, true⟩])))
 (.region [⟨(some 104), .move (.tmp 10), none, 0, false⟩,
 ⟨(some 105), .bin .add (.tmp 104) (.const (.int .i64 1)), none, 0, false⟩,
 ⟨(some 10), .move (.tmp 105), none, 0, false⟩]))))))
 .skip))))))))
 (.region [⟨(some 15), .move (.tmp 8), none, 0, false⟩,
 ⟨(some 16), .bin .add (.tmp 15) (.const (.int .i64 1)), none, 0, false⟩,
 ⟨(some 8), .move (.tmp 16), none, 0, false⟩]))))))
 (.seq (.region [⟨(some 6), .move (.const (.bool false)), none, 0, false⟩])
 .ret))))⟩

def L216 : LFunc := ⟨17, [.tmp 4],
 (.seq (.region [⟨(some 4), .move (.const (.bool false)), none, 0, false⟩])
 (.seq (.region [⟨(some 5), .move (.tmp 0), none, 0, false⟩,
 ⟨(some 6), .call (.func 238) [(.tmp 5)], none, 0, false⟩,
 ⟨(some 7), .move (.tmp 6), none, 0, false⟩,
 ⟨(some 8), .move (.tmp 1), (some (7, true)), 0, false⟩,
 ⟨(some 9), .call (.func 238) [(.tmp 8)], (some (7, true)), 0, false⟩,
 ⟨(some 10), .un .not (.tmp 9), (some (7, true)), 0, false⟩,
 ⟨(some 11), .pick (.tmp 7) (.tmp 10) (.const (.bool false)), none, 0, false⟩,
 ⟨(some 12), .move (.tmp 11), none, 0, false⟩,
 ⟨(some 13), .move (.tmp 0), (some (12, false)), 0, false⟩,
 ⟨(some 14), .move (.tmp 1), (some (12, false)), 0, false⟩,
 ⟨(some 15), .bin .lss (.tmp 13) (.tmp 14), (some (12, false)), 0, false⟩,
 ⟨(some 16), .pick (.tmp 12) (.const (.bool true)) (.tmp 15), none, 0, false⟩,
 ⟨(some 4), .move (.tmp 16), none, 0, false⟩])
 .ret))⟩

def L217 : LFunc := ⟨84, [.tmp 8],
 (.seq (.region [⟨(some 8), .move (.const (.int .i64 0)), none, 0, false⟩])
 (.seq (.draw [⟨(some 11), .move (.tmp 0), none, 0, false⟩,
 ⟨(some 12), .move (.tmp 1), none, 0, false⟩,
 ⟨(some 15), .move (.tmp 0), none, 0, false⟩,
 ⟨(some 16), .move (.tmp 3), none, 0, false⟩,
 ⟨(some 17), .indexAddr 1 (.tmp 15) (.tmp 16), none, 0, false⟩,
 ⟨(some 18), .load1 (.tmp 17), none, 0, false⟩,
 ⟨(some 19), .move (.tmp 0), none, 0, false⟩,
 ⟨(some 20), .move (.tmp 1), none, 0, false⟩,
 ⟨(some 21), .indexAddr 1 (.tmp 19) (.tmp 20), none, 0, false⟩,
 ⟨(some 22), .load1 (.tmp 21), none, 0, false⟩,
 ⟨(some 23), .indexAddr 1 (.tmp 11) (.tmp 12), none, 0, false⟩,
 ⟨none, .store 1 (.tmp 23) (.tmp 18), none, 0, true⟩,
 ⟨(some 13), .move (.tmp 0), none, 0, false⟩,
 ⟨(some 14), .move (.tmp 3), none, 0, false⟩,
 ⟨(some 24), .indexAddr 1 (.tmp 13) (.tmp 14), none, 1, false⟩,
 ⟨none, .store 1 (.tmp 24) (.tmp 22), none, 1, true⟩])
 (.seq (.region [⟨(some 25), .move (.tmp 1), none, 0, false⟩,
 ⟨(some 26), .bin .add (.tmp 25) (.const (.int .i64 1)), none, 0, false⟩,
 ⟨(some 27), .move (.tmp 2), none, 0, false⟩,
 ⟨(some 28), .bin .sub (.tmp 27) (.const (.int .i64 1)), none, 0, false⟩,
 ⟨(some 9), .move (.tmp 26), none, 0, false⟩,
 ⟨(some 10), .move (.tmp 28), none, 0, false⟩])
 (.seq (.block 0 (.loop (.block 1 (.seq (.block 2 (.loop (.seq (.seq (.draw [⟨(some 29), .move (.tmp 9), none, 0, false⟩,
 ⟨(some 30), .move (.tmp 10), none, 0, false⟩,
 ⟨(some 31), .bin .leq (.tmp 29) (.tmp 30), none, 0, false⟩,
 ⟨(some 32), .move (.tmp 31), none, 0, false⟩,
 ⟨(some 33), .move (.tmp 0), (some (32, true)), 0, false⟩,
 ⟨(some 34), .move (.tmp 1), (some (32, true)), 0, false⟩,
 ⟨(some 35), .indexAddr 1 (.tmp 33) (.tmp 34), (some (32, true)), 0, false⟩,
 ⟨(some 36), .load1 (.tmp 35), (some (32, true)), 0, false⟩,
 ⟨(some 37), .move (.tmp 0), (some (32, true)), 0, false⟩,
 ⟨(some 38), .move (.tmp 9), (some (32, true)), 0, false⟩,
 ⟨(some 39), .indexAddr 1 (.tmp 37) (.tmp 38), (some (32, true)), 0, false⟩,
 ⟨(some 40), .load1 (.tmp 39), (some (32, true)), 0, false⟩,
 ⟨(some 41), .call (.func 216) [(.tmp 36), (.tmp 40)], (some (32, true)), 0, true⟩,
 ⟨(some 42), .un .not (.tmp 41), (some (32, true)), 1, false⟩,
 ⟨(some 43), .pick (.tmp 32) (.tmp 42) (.const (.bool false)), none, 1, false⟩])
 (.cond (.tmp 43) .skip
 (.exit 2)))
 (.block 3 (.region [⟨(some 44), .move (.tmp 9), none, 0, false⟩,
 ⟨(some 45), .bin .add (.tmp 44) (.const (.int .i64 1)), none, 0, false⟩,
 ⟨(some 9), .move (.tmp 45), none, 0, false⟩])))))
 (.seq (.block 4 (.loop (.seq (.seq (.draw [⟨(some 46), .move (.tmp 9), none, 0, false⟩,
 ⟨(some 47), .move (.tmp 10), none, 0, false⟩,
 ⟨(some 48), .bin .leq (.tmp 46) (.tmp 47), none, 0, false⟩,
 ⟨(some 49), .move (.tmp 48), none, 0, false⟩,
 ⟨(some 50), .move (.tmp 0), (some (49, true)), 0, false⟩,
 ⟨(some 51), .move (.tmp 1), (some (49, true)), 0, false⟩,
 ⟨(some 52), .indexAddr 1 (.tmp 50) (.tmp 51), (some (49, true)), 0, false⟩,
 ⟨(some 53), .load1 (.tmp 52), (some (49, true)), 0, false⟩,
 ⟨(some 54), .move (.tmp 0), (some (49, true)), 0, false⟩,
 ⟨(some 55), .move (.tmp 10), (some (49, true)), 0, false⟩,
 ⟨(some 56), .indexAddr 1 (.tmp 54) (.tmp 55), (some (49, true)), 0, false⟩,
 ⟨(some 57), .load1 (.tmp 56), (some (49, true)), 0, false⟩,
 ⟨(some 58), .call (.func 216) [(.tmp 53), (.tmp 57)], (some (49, true)), 0, true⟩,
 ⟨(some 59), .pick (.tmp 49) (.tmp 58) (.const (.bool false)), none, 1, false⟩])
 (.cond (.tmp 59) .skip
 (.exit 4)))
 (.block 5 (.region [⟨(some 60), .move (.tmp 10), none, 0, false⟩,
 ⟨(some 61), .bin .sub (.tmp 60) (.const (.int .i64 1)), none, 0, false⟩,
 ⟨(some 10), .move (.tmp 61), none, 0, false⟩])))))
 (.seq (.seq (.region [⟨(some 62), .move (.tmp 9), none, 0, false⟩,
 ⟨(some 63), .move (.tmp 10), none, 0, false⟩,
 ⟨(some 64), .bin .gtr (.tmp 62) (.tmp 63), none, 0, false⟩])
 (.cond (.tmp 64) (.exit 0)
 .skip))
 (.seq (.draw [⟨(some 65), .move (.tmp 0), none, 0, false⟩,
 ⟨(some 66), .move (.tmp 9), none, 0, false⟩,
 ⟨(some 69), .move (.tmp 0), none, 0, false⟩,
 ⟨(some 70), .move (.tmp 10), none, 0, false⟩,
 ⟨(some 71), .indexAddr 1 (.tmp 69) (.tmp 70), none, 0, false⟩,
 ⟨(some 72), .load1 (.tmp 71), none, 0, false⟩,
 ⟨(some 73), .move (.tmp 0), none, 0, false⟩,
 ⟨(some 74), .move (.tmp 9), none, 0, false⟩,
 ⟨(some 75), .indexAddr 1 (.tmp 73) (.tmp 74), none, 0, false⟩,
 ⟨(some 76), .load1 (.tmp 75), none, 0, false⟩,
 ⟨(some 77), .indexAddr 1 (.tmp 65) (.tmp 66), none, 0, false⟩,
 ⟨none, .store 1 (.tmp 77) (.tmp 72), none, 0, true⟩,
 ⟨(some 67), .move (.tmp 0), none, 0, false⟩,
 ⟨(some 68), .move (.tmp 10), none, 0, false⟩,
 ⟨(some 78), .indexAddr 1 (.tmp 67) (.tmp 68), none, 1, false⟩,
 ⟨none, .store 1 (.tmp 78) (.tmp 76), none, 1, true⟩])
 (.seq (.region [⟨(some 79), .move (.tmp 9), none, 0, false⟩,
 ⟨(some 80), .bin .add (.tmp 79) (.const (.int .i64 1)), none, 0, false⟩,
 ⟨(some 9), .move (.tmp 80), none, 0, false⟩])
 (.region [⟨(some 81), .move (.tmp 10), none, 0, false⟩,
 ⟨(some 82), .bin .sub (.tmp 81) (.const (.int .i64 1)), none, 0, false⟩,
 ⟨(some 10), .move (.tmp 82), none, 0, false⟩])))))))))
 (.seq (.region [⟨(some 83), .move (.tmp 9), none, 0, false⟩,
 ⟨(some 8), .move (.tmp 83), none, 0, false⟩])
 .ret)))))⟩

def L218 : LFunc := ⟨168, [.tmp 8, .tmp 9],
 (.seq (.region [⟨(some 8), .move (.const (.int .i64 0)), none, 0, false⟩,
 ⟨(some 9), .move (.const (.bool false)), none, 0, false⟩])
 (.seq (.draw [⟨(some 12), .move (.tmp 0), none, 0, false⟩,
 ⟨(some 13), .move (.tmp 1), none, 0, false⟩,
 ⟨(some 16), .move (.tmp 0), none, 0, false⟩,
 ⟨(some 17), .move (.tmp 3), none, 0, false⟩,
 ⟨(some 18), .indexAddr 1 (.tmp 16) (.tmp 17), none, 0, false⟩,
 ⟨(some 19), .load1 (.tmp 18), none, 0, false⟩,
 ⟨(some 20), .move (.tmp 0), none, 0, false⟩,
 ⟨(some 21), .move (.tmp 1), none, 0, false⟩,
 ⟨(some 22), .indexAddr 1 (.tmp 20) (.tmp 21), none, 0, false⟩,
 ⟨(some 23), .load1 (.tmp 22), none, 0, false⟩,
 ⟨(some 24), .indexAddr 1 (.tmp 12) (.tmp 13), none, 0, false⟩,
 ⟨none, .store 1 (.tmp 24) (.tmp 19), none, 0, true⟩,
 ⟨(some 14), .move (.tmp 0), none, 0, false⟩,
 ⟨(some 15), .move (.tmp 3), none, 0, false⟩,
 ⟨(some 25), .indexAddr 1 (.tmp 14) (.tmp 15), none, 1, false⟩,
 ⟨none, .store 1 (.tmp 25) (.tmp 23), none, 1, true⟩])
 (.seq (.region [⟨(some 26), .move (.tmp 1), none, 0, false⟩,
 ⟨(some 27), .bin .add (.tmp 26) (.const (.int .i64 1)), none, 0, false⟩,
 ⟨(some 28), .move (.tmp 2), none, 0, false⟩,
 ⟨(some 29), .bin .sub (.tmp 28) (.const (.int .i64 1)), none, 0, false⟩,
 ⟨(some 10), .move (.tmp 27), none, 0, false⟩,
 ⟨(some 11), .move (.tmp 29), none, 0, false⟩])
 (.seq (.block 0 (.loop (.seq (.seq (.draw [⟨(some 30), .move (.tmp 10), none, 0, false⟩,
 ⟨(some 31), .move (.tmp 11), none, 0, false⟩,
 ⟨(some 32), .bin .leq (.tmp 30) (.tmp 31), none, 0, false⟩,
 ⟨(some 33), .move (.tmp 32), none, 0, false⟩,
 ⟨(some 34), .move (.tmp 0), (some (33, true)), 0, false⟩,
 ⟨(some 35), .move (.tmp 10), (some (33, true)), 0, false⟩,
 ⟨(some 36), .indexAddr 1 (.tmp 34) (.tmp 35), (some (33, true)), 0, false⟩,
 ⟨(some 37), .load1 (.tmp 36), (some (33, true)), 0, false⟩,
 ⟨(some 38), .move (.tmp 0), (some (33, true)), 0, false⟩,
 ⟨(some 39), .move (.tmp 1), (some (33, true)), 0, false⟩,
 ⟨(some 40), .indexAddr 1 (.tmp 38) (.tmp 39), (some (33, true)), 0, false⟩,
 ⟨(some 41), .load1 (.tmp 40), (some (33, true)), 0, false⟩,
 ⟨(some 42), .call (.func 216) [(.tmp 37), (.tmp 41)], (some (33, true)), 0, true⟩,
 ⟨(some 43), .pick (.tmp 33) (.tmp 42) (.const (.bool false)), none, 1, false⟩])
 (.cond (.tmp 43) .skip
 (.exit 0)))
 (.block 1 (.region [⟨(some 44), .move (.tmp 10), none, 0, false⟩,
 ⟨(some 45), .bin .add (.tmp 44) (.const (.int .i64 1)), none, 0, false⟩,
 ⟨(some 10), .move (.tmp 45), none, 0, false⟩])))))
 (.seq (.block 2 (.loop (.seq (.seq (.draw [⟨(some 46), .move (.tmp 10), none, 0, false⟩,
 ⟨(some 47), .move (.tmp 11), none, 0, false⟩,
 ⟨(some 48), .bin .leq (.tmp 46) (.tmp 47), none, 0, false⟩,
 ⟨(some 49), .move (.tmp 48), none, 0, false⟩,
 ⟨(some 50), .move (.tmp 0), (some (49, true)), 0, false⟩,
 ⟨(some 51), .move (.tmp 11), (some (49, true)), 0, false⟩,
 ⟨(some 52), .indexAddr 1 (.tmp 50) (.tmp 51), (some (49, true)), 0, false⟩,
 ⟨(some 53), .load1 (.tmp 52), (some (49, true)), 0, false⟩,
 ⟨(some 54), .move (.tmp 0), (some (49, true)), 0, false⟩,
 ⟨(some 55), .move (.tmp 1), (some (49, true)), 0, false⟩,
 ⟨(some 56), .indexAddr 1 (.tmp 54) (.tmp 55), (some (49, true)), 0, false⟩,
 ⟨(some 57), .load1 (.tmp 56), (some (49, true)), 0, false⟩,
 ⟨(some 58), .call (.func 216) [(.tmp 53), (.tmp 57)], (some (49, true)), 0, true⟩,
 ⟨(some 59), .un .not (.tmp 58), (some (49, true)), 1, false⟩,
 ⟨(some 60), .pick (.tmp 49) (.tmp 59) (.const (.bool false)), none, 1, false⟩])
 (.cond (.tmp 60) .skip
 (.exit 2)))
 (.block 3 (.region [⟨(some 61), .move (.tmp 11), none, 0, false⟩,
 ⟨(some 62), .bin .sub (.tmp 61) (.const (.int .i64 1)), none, 0, false⟩,
 ⟨(some 11), .move (.tmp 62), none, 0, false⟩])))))
 (.seq (.seq (.region [⟨(some 63), .move (.tmp 10), none, 0, false⟩,
 ⟨(some 64), .move (.tmp 11), none, 0, false⟩,
 ⟨(some 65), .bin .gtr (.tmp 63) (.tmp 64), none, 0, false⟩])
 (.cond (.tmp 65) (.seq (.draw [⟨(some 66), .move (.tmp 0), none, 0, false⟩,
 ⟨(some 67), .move (.tmp 11), none, 0, false⟩,
 ⟨(some 70), .move (.tmp 0), none, 0, false⟩,
 ⟨(some 71), .move (.tmp 1), none, 0, false⟩,
 ⟨(some 72), .indexAddr 1 (.tmp 70) (.tmp 71), none, 0, false⟩,
 ⟨(some 73), .load1 (.tmp 72), none, 0, false⟩,
 ⟨(some 74), .move (.tmp 0), none, 0, false⟩,
 ⟨(some 75), .move (.tmp 11), none, 0, false⟩,
 ⟨(some 76), .indexAddr 1 (.tmp 74) (.tmp 75), none, 0, false⟩,
 ⟨(some 77), .load1 (.tmp 76), none, 0, false⟩,
 ⟨(some 78), .indexAddr 1 (.tmp 66) (.tmp 67), none, 0, false⟩,
 ⟨none, .store 1 (.tmp 78) (.tmp 73), none, 0, true⟩,
 ⟨(some 68), .move (.tmp 0), none, 0, false⟩,
 ⟨(some 69), .move (.tmp 1), none, 0, false⟩,
 ⟨(some 79), .indexAddr 1 (.tmp 68) (.tmp 69), none, 1, false⟩,
 ⟨none, .store 1 (.tmp 79) (.tmp 77), none, 1, true⟩])
 (.seq (.region [⟨(some 80), .move (.tmp 11), none, 0, false⟩,
 ⟨(some 8), .move (.tmp 80), none, 0, false⟩,
 ⟨(some 9), .move (.const (.bool true)), none, 0, false⟩])
 .ret))
 .skip))
 (.seq (.draw [⟨(some 81), .move (.tmp 0), none, 0, false⟩,
 ⟨(some 82), .move (.tmp 10), none, 0, false⟩,
 ⟨(some 85), .move (.tmp 0), none, 0, false⟩,
 ⟨(some 86), .move (.tmp 11), none, 0, false⟩,
 ⟨(some 87), .indexAddr 1 (.tmp 85) (.tmp 86), none, 0, false⟩,
 ⟨(some 88), .load1 (.tmp 87), none, 0, false⟩,
 ⟨(some 89), .move (.tmp 0), none, 0, false⟩,
 ⟨(some 90), .move (.tmp 10), none, 0, false⟩,
 ⟨(some 91), .indexAddr 1 (.tmp 89) (.tmp 90), none, 0, false⟩,
 ⟨(some 92), .load1 (.tmp 91), none, 0, false⟩,
 ⟨(some 93), .indexAddr 1 (.tmp 81) (.tmp 82), none, 0, false⟩,
 ⟨none, .store 1 (.tmp 93) (.tmp 88), none, 0, true⟩,
 ⟨(some 83), .move (.tmp 0), none, 0, false⟩,
 ⟨(some 84), .move (.tmp 11), none, 0, false⟩,
 ⟨(some 94), .indexAddr 1 (.tmp 83) (.tmp 84), none, 1, false⟩,
 ⟨none, .store 1 (.tmp 94) (.tmp 92), none, 1, true⟩])
 (.seq (.region [⟨(some 95), .move (.tmp 10), none, 0, false⟩,
 ⟨(some 96), .bin .add (.tmp 95) (.const (.int .i64 1)), none, 0, false⟩,
 ⟨(some 10), .move (.tmp 96), none, 0, false⟩])
 (.seq (.region [⟨(some 97), .move (.tmp 11), none, 0, false⟩,
 ⟨(some 98), .bin .sub (.tmp 97) (.const (.int .i64 1)), none, 0, false⟩,
 ⟨(some 11), .move (.tmp 98), none, 0, false⟩])
 (.seq (.block 4 (.loop (.block 5 (.seq (.block 6 (.loop (.seq (.seq (.draw [⟨(some 99), .move (.tmp 10), none, 0, false⟩,
 ⟨(some 100), .move (.tmp 11), none, 0, false⟩,
 ⟨(some 101), .bin .leq (.tmp 99) (.tmp 100), none, 0, false⟩,
 ⟨(some 102), .move (.tmp 101), none, 0, false⟩,
 ⟨(some 103), .move (.tmp 0), (some (102, true)), 0, false⟩,
 ⟨(some 104), .move (.tmp 10), (some (102, true)), 0, false⟩,
 ⟨(some 105), .indexAddr 1 (.tmp 103) (.tmp 104), (some (102, true)), 0, false⟩,
 ⟨(some 106), .load1 (.tmp 105), (some (102, true)), 0, false⟩,
 ⟨(some 107), .move (.tmp 0), (some (102, true)), 0, false⟩,
 ⟨(some 108), .move (.tmp 1), (some (102, true)), 0, false⟩,
 ⟨(some 109), .indexAddr 1 (.tmp 107) (.tmp 108), (some (102, true)), 0, false⟩,
 ⟨(some 110), .load1 (.tmp 109), (some (102, true)), 0, false⟩,
 ⟨(some 111), .call (.func 216) [(.tmp 106), (.tmp 110)], (some (102, true)), 0, true⟩,
 ⟨(some 112), .pick (.tmp 102) (.tmp 111) (.const (.bool false)), none, 1, false⟩])
 (.cond (.tmp 112) .skip
 (.exit 6)))
 (.block 7 (.region [⟨(some 113), .move (.tmp 10), none, 0, false⟩,
 ⟨(some 114), .bin .add (.tmp 113) (.const (.int .i64 1)), none, 0, false⟩,
 ⟨(some 10), .move (.tmp 114), none, 0, false⟩])))))
 (.seq (.block 8 (.loop (.seq (.seq (.draw [⟨(some 115), .move (.tmp 10), none, 0, false⟩,
 ⟨(some 116), .move (.tmp 11), none, 0, false⟩,
 ⟨(some 117), .bin .leq (.tmp 115) (.tmp 116), none, 0, false⟩,
 ⟨(some 118), .move (.tmp 117), none, 0, false⟩,
 ⟨(some 119), .move (.tmp 0), (some (118, true)), 0, false⟩,
 ⟨(some 120), .move (.tmp 11), (some (118, true)), 0, false⟩,
 ⟨(some 121), .indexAddr 1 (.tmp 119) (.tmp 120), (some (118, true)), 0, false⟩,
 ⟨(some 122), .load1 (.tmp 121), (some (118, true)), 0, false⟩,
 ⟨(some 123), .move (.tmp 0), (some (118, true)), 0, false⟩,
 ⟨(some 124), .move (.tmp 1), (some (118, true)), 0, false⟩,
 ⟨(some 125), .indexAddr 1 (.tmp 123) (.tmp 124), (some (118, true)), 0, false⟩,
 ⟨(some 126), .load1 (.tmp 125), (some (118, true)), 0, false⟩,
 ⟨(some 127), .call (.func 216) [(.tmp 122), (.tmp 126)], (some (118, true)), 0, true⟩,
 ⟨(some 128), .un .not (.tmp 127), (some (118, true)), 1, false⟩,
 ⟨(some 129), .pick (.tmp 118) (.tmp 128) (.const (.bool false)), none, 1, false⟩])
 (.cond (.tmp 129) .skip
 (.exit 8)))
 (.block 9 (.region [⟨(some 130), .move (.tmp 11), none, 0, false⟩,
 ⟨(some 131), .bin .sub (.tmp 130) (.const (.int .i64 1)), none, 0, false⟩,
 ⟨(some 11), .move (.tmp 131), none, 0, false⟩])))))
 (.seq (.seq (.region [⟨(some 132), .move (.tmp 10), none, 0, false⟩,
 ⟨(some 133), .move (.tmp 11), none, 0, false⟩,
 ⟨(some 134), .bin .gtr (.tmp 132) (.tmp 133), none, 0, false⟩])
 (.cond (.tmp 134) (.exit 4)
 .skip))
 (.seq (.draw [⟨(some 135), .move (.tmp 0), none, 0, false⟩,
 ⟨(some 136), .move (.tmp 10), none, 0, false⟩,
 ⟨(some 139), .move (.tmp 0), none, 0, false⟩,
 ⟨(some 140), .move (.tmp 11), none, 0, false⟩,
 ⟨(some 141), .indexAddr 1 (.tmp 139) (.tmp 140), none, 0, false⟩,
 ⟨(some 142), .load1 (.tmp 141), none, 0, false⟩,
 ⟨(some 143), .move (.tmp 0), none, 0, false⟩,
 ⟨(some 144), .move (.tmp 10), none, 0, false⟩,
 ⟨(some 145), .indexAddr 1 (.tmp 143) (.tmp 144), none, 0, false⟩,
 ⟨(some 146), .load1 (.tmp 145), none, 0, false⟩,
 ⟨(some 147), .indexAddr 1 (.tmp 135) (.tmp 136), none, 0, false⟩,
 ⟨none, .store 1 (.tmp 147) (.tmp 142), none, 0, true⟩,
 ⟨(some 137), .move (.tmp 0), none, 0, false⟩,
 ⟨(some 138), .move (.tmp 11), none, 0, false⟩,
 ⟨(some 148), .indexAddr 1 (.tmp 137) (.tmp 138), none, 1, false⟩,
 ⟨none, .store 1 (.tmp 148) (.tmp 146), none, 1, true⟩])
 (.seq (.region [⟨(some 149), .move (.tmp 10), none, 0, false⟩,
 ⟨(some 150), .bin .add (.tmp 149) (.const (.int .i64 1)), none, 0, false⟩,
 ⟨(some 10), .move (.tmp 150), none, 0, false⟩])
 (.region [⟨(some 151), .move (.tmp 11), none, 0, false⟩,
 ⟨(some 152), .bin .sub (.tmp 151) (.const (.int .i64 1)), none, 0, false⟩,
 ⟨(some 11), .move (.tmp 152), none, 0, false⟩])))))))))
 (.seq (.draw [⟨(some 153), .move (.tmp 0), none, 0, false⟩,
 ⟨(some 154), .move (.tmp 11), none, 0, false⟩,
 ⟨(some 157), .move (.tmp 0), none, 0, false⟩,
 ⟨(some 158), .move (.tmp 1), none, 0, false⟩,
 ⟨(some 159), .indexAddr 1 (.tmp 157) (.tmp 158), none, 0, false⟩,
 ⟨(some 160), .load1 (.tmp 159), none, 0, false⟩,
 ⟨(some 161), .move (.tmp 0), none, 0, false⟩,
 ⟨(some 162), .move (.tmp 11), none, 0, false⟩,
 ⟨(some 163), .indexAddr 1 (.tmp 161) (.tmp 162), none, 0, false⟩,
 ⟨(some 164), .load1 (.tmp 163), none, 0, false⟩,
 ⟨(some 165), .indexAddr 1 (.tmp 153) (.tmp 154), none, 0, false⟩,
 ⟨none, .store 1 (.tmp 165) (.tmp 160), none, 0, true⟩,
 ⟨(some 155), .move (.tmp 0), none, 0, false⟩,
 ⟨(some 156), .move (.tmp 1), none, 0, false⟩,
 ⟨(some 166), .indexAddr 1 (.tmp 155) (.tmp 156), none, 1, false⟩,
 ⟨none, .store 1 (.tmp 166) (.tmp 164), none, 1, true⟩])
 (.seq (.region [⟨(some 167), .move (.tmp 11), none, 0, false⟩,
 ⟨(some 8), .move (.tmp 167), none, 0, false⟩,
 ⟨(some 9), .move (.const (.bool false)), none, 0, false⟩])
 .ret))))))))))))⟩

def L219 : LFunc := ⟨19, [.tmp 2],
 (.seq (.region [⟨(some 2), .move (.const (.int .i64 0)), none, 0, false⟩])
 (.seq (.seq (.region [⟨(some 3), .move (.tmp 0), none, 0, false⟩,
 ⟨(some 4), .bin .geq (.tmp 3) (.const (.int .u32 65536)), none, 0, false⟩])
 (.cond (.tmp 4) (.seq (.region [⟨(some 5), .move (.tmp 0), none, 0, false⟩,
 ⟨(some 6), .bin .shr (.tmp 5) (.const (.int .u64 16)), none, 0, false⟩,
 ⟨(some 0), .move (.tmp 6), none, 0, false⟩])
 (.region [⟨(some 2), .move (.const (.int .i64 16)), none, 0, false⟩]))
 .skip))
 (.seq (.seq (.region [⟨(some 7), .move (.tmp 0), none, 0, false⟩,
 ⟨(some 8), .bin .geq (.tmp 7) (.const (.int .u32 256)), none, 0, false⟩])
 (.cond (.tmp 8) (.seq (.region [⟨(some 9), .move (.tmp 0), none, 0, false⟩,
 ⟨(some 10), .bin .shr (.tmp 9) (.const (.int .u64 8)), none, 0, false⟩,
 ⟨(some 0), .move (.tmp 10), none, 0, false⟩])
 (.region [⟨(some 11), .move (.tmp 2), none, 0, false⟩,
 ⟨(some 12), .bin .add (.tmp 11) (.const (.int .i64 8)), none, 0, false⟩,
 ⟨(some 2), .move (.tmp 12), none, 0, false⟩]))
 .skip))
 (.seq (.region [⟨(some 13), .move (.tmp 2), none, 0, false⟩,
 ⟨(some 14), .move (.tmp 0), none, 0, false⟩,
 ⟨(some 15), .conv (.int .u8) (.tmp 14), none, 0, false⟩,
 ⟨(some 16), .indexStr (.const (.string ⟨⟨[0, 1, 2, 2, 3, 3, 3, 3, 4, 4, 4, 4, 4, 4, 4, 4, 5, 5, 5, 5, 5, 5, 5, 5, 5, 5, 5, 5, 5, 5, 5, 5, 6, 6, 6, 6, 6, 6, 6, 6, 6, 6, 6, 6, 6, 6, 6, 6, 6, 6, 6, 6, 6, 6, 6, 6, 6, 6, 6, 6, 6, 6, 6, 6, 7, 7, 7, 7, 7, 7, 7, 7, 7, 7, 7, 7, 7, 7, 7, 7, 7, 7, 7, 7, 7, 7, 7, 7, 7, 7, 7, 7, 7, 7, 7, 7, 7, 7, 7, 7, 7, 7, 7, 7, 7, 7, 7, 7, 7, 7, 7, 7, 7, 7, 7, 7, 7, 7, 7, 7, 7, 7, 7, 7, 7, 7, 7, 7, 8, 8, 8, 8, 8, 8, 8, 8, 8, 8, 8, 8, 8, 8, 8, 8, 8, 8, 8, 8, 8, 8, 8, 8, 8, 8, 8, 8, 8, 8, 8, 8, 8, 8, 8, 8, 8, 8, 8, 8, 8, 8, 8, 8, 8, 8, 8, 8, 8, 8, 8, 8, 8, 8, 8, 8, 8, 8, 8, 8, 8, 8, 8, 8, 8, 8, 8, 8, 8, 8, 8, 8, 8, 8, 8, 8, 8, 8, 8, 8, 8, 8, 8, 8, 8, 8, 8, 8, 8, 8, 8, 8, 8, 8, 8, 8, 8, 8, 8, 8, 8, 8, 8, 8, 8, 8, 8, 8, 8, 8, 8, 8, 8, 8, 8, 8, 8, 8, 8, 8, 8, 8, 8, 8, 8, 8, 8, 8]⟩⟩)) (.tmp 15), none, 0, false⟩,
 ⟨(some 17), .conv (.int .i64) (.tmp 16), none, 0, false⟩,
 ⟨(some 18), .bin .add (.tmp 13) (.tmp 17), none, 0, false⟩,
 ⟨(some 2), .move (.tmp 18), none, 0, false⟩])
 .ret))))⟩

def L220 : LFunc := ⟨25, [.tmp 2],
 (.seq (.region [⟨(some 2), .move (.const (.int .i64 0)), none, 0, false⟩])
 (.seq (.seq (.region [⟨(some 3), .move (.tmp 0), none, 0, false⟩,
 ⟨(some 4), .bin .geq (.tmp 3) (.const (.int .u64 4294967296)), none, 0, false⟩])
 (.cond (.tmp 4) (.seq (.region [⟨(some 5), .move (.tmp 0), none, 0, false⟩,
 ⟨(some 6), .bin .shr (.tmp 5) (.const (.int .u64 32)), none, 0, false⟩,
 ⟨(some 0), .move (.tmp 6), none, 0, false⟩])
 (.region [⟨(some 2), .move (.const (.int .i64 32)), none, 0, false⟩]))
 .skip))
 (.seq (.seq (.region [⟨(some 7), .move (.tmp 0), none, 0, false⟩,
 ⟨(some 8), .bin .geq (.tmp 7) (.const (.int .u64 65536)), none, 0, false⟩])
 (.cond (.tmp 8) (.seq (.region [⟨(some 9), .move (.tmp 0), none, 0, false⟩,
 ⟨(some 10), .bin .shr (.tmp 9) (.const (.int .u64 16)), none, 0, false⟩,
 ⟨(some 0), .move (.tmp 10), none, 0, false⟩])
 (.region [⟨(some 11), .move (.tmp 2), none, 0, false⟩,
 ⟨(some 12), .bin .add (.tmp 11) (.const (.int .i64 16)), none, 0, false⟩,
 ⟨(some 2), .move (.tmp 12), none, 0, false⟩]))
 .skip))
 (.seq (.seq (.region [⟨(some 13), .move (.tmp 0), none, 0, false⟩,
 ⟨(some 14), .bin .geq (.tmp 13) (.const (.int .u64 256)), none, 0, false⟩])
 (.cond (.tmp 14) (.seq (.region [⟨(some 15), .move (.tmp 0), none, 0, false⟩,
 ⟨(some 16), .bin .shr (.tmp 15) (.const (.int .u64 8)), none, 0, false⟩,
 ⟨(some 0), .move (.tmp 16), none, 0, false⟩])
 (.region [⟨(some 17), .move (.tmp 2), none, 0, false⟩,
 ⟨(some 18), .bin .add (.tmp 17) (.const (.int .i64 8)), none, 0, false⟩,
 ⟨(some 2), .move (.tmp 18), none, 0, false⟩]))
 .skip))
 (.seq (.region [⟨(some 19), .move (.tmp 2), none, 0, false⟩,
 ⟨(some 20), .move (.tmp 0), none, 0, false⟩,
 ⟨(some 21), .conv (.int .u8) (.tmp 20), none, 0, false⟩,
 ⟨(some 22), .indexStr (.const (.string ⟨⟨[0, 1, 2, 2, 3, 3, 3, 3, 4, 4, 4, 4, 4, 4, 4, 4, 5, 5, 5, 5, 5, 5, 5, 5, 5, 5, 5, 5, 5, 5, 5, 5, 6, 6, 6, 6, 6, 6, 6, 6, 6, 6, 6, 6, 6, 6, 6, 6, 6, 6, 6, 6, 6, 6, 6, 6, 6, 6, 6, 6, 6, 6, 6, 6, 7, 7, 7, 7, 7, 7, 7, 7, 7, 7, 7, 7, 7, 7, 7, 7, 7, 7, 7, 7, 7, 7, 7, 7, 7, 7, 7, 7, 7, 7, 7, 7, 7, 7, 7, 7, 7, 7, 7, 7, 7, 7, 7, 7, 7, 7, 7, 7, 7, 7, 7, 7, 7, 7, 7, 7, 7, 7, 7, 7, 7, 7, 7, 7, 8, 8, 8, 8, 8, 8, 8, 8, 8, 8, 8, 8, 8, 8, 8, 8, 8, 8, 8, 8, 8, 8, 8, 8, 8, 8, 8, 8, 8, 8, 8, 8, 8, 8, 8, 8, 8, 8, 8, 8, 8, 8, 8, 8, 8, 8, 8, 8, 8, 8, 8, 8, 8, 8, 8, 8, 8, 8, 8, 8, 8, 8, 8, 8, 8, 8, 8, 8, 8, 8, 8, 8, 8, 8, 8, 8, 8, 8, 8, 8, 8, 8, 8, 8, 8, 8, 8, 8, 8, 8, 8, 8, 8, 8, 8, 8, 8, 8, 8, 8, 8, 8, 8, 8, 8, 8, 8, 8, 8, 8, 8, 8, 8, 8, 8, 8, 8, 8, 8, 8, 8, 8, 8, 8, 8, 8, 8, 8]⟩⟩)) (.tmp 21), none, 0, false⟩,
 ⟨(some 23), .conv (.int .i64) (.tmp 22), none, 0, false⟩,
 ⟨(some 24), .bin .add (.tmp 19) (.tmp 23), none, 0, false⟩,
 ⟨(some 2), .move (.tmp 24), none, 0, false⟩])
 .ret)))))⟩

def L221 : LFunc := ⟨37, [.tmp 4],
 (.seq (.region [⟨(some 3), .box 6 117 (.tmp 1), none, 0, false⟩,
 ⟨(some 4), .move (.const (.bool false)), none, 0, false⟩])
 (.seq (.draw [⟨(some 8), .move (.tmp 0), none, 0, false⟩,
 ⟨(some 9), .call (.func 51) [(.tmp 8)], none, 0, true⟩,
 ⟨(some 10), .fieldAddr 3 (.tmp 3), none, 0, false⟩,
 ⟨(some 11), .load1 (.tmp 10), none, 0, false⟩,
 ⟨(some 12), .call (.func 119) [(.tmp 9), (.tmp 11)], none, 1, true⟩,
 ⟨(some 7), .move (.tmp 12), none, 2, false⟩,
 ⟨(some 13), .extract (.tmp 7) 0, none, 2, false⟩,
 ⟨(some 14), .extract (.tmp 7) 1, none, 2, false⟩,
 ⟨(some 5), .move (.tmp 13), none, 2, false⟩,
 ⟨(some 6), .move (.tmp 14), none, 2, false⟩])
 (.seq (.region [⟨(some 15), .move (.tmp 6), none, 0, false⟩,
 ⟨(some 16), .bin .eql (.tmp 15) (.const (.int .i64 0)), none, 0, false⟩,
 ⟨(some 17), .move (.tmp 16), none, 0, false⟩,
 ⟨(some 18), .fieldAddr 0 (.tmp 3), (some (17, true)), 0, false⟩,
 ⟨(some 19), .load1 (.tmp 18), (some (17, true)), 0, false⟩,
 ⟨(some 20), .call (.func 250) [(.tmp 19)], (some (17, true)), 0, false⟩,
 ⟨(some 21), .pick (.tmp 17) (.tmp 20) (.const (.bool false)), none, 0, false⟩,
 ⟨(some 22), .move (.tmp 21), none, 0, false⟩,
 ⟨(some 23), .fieldAddr 2 (.tmp 3), (some (22, true)), 0, false⟩,
 ⟨(some 24), .load1 (.tmp 23), (some (22, true)), 0, false⟩,
 ⟨(some 25), .call (.func 250) [(.tmp 24)], (some (22, true)), 0, false⟩,
 ⟨(some 26), .pick (.tmp 22) (.tmp 25) (.const (.bool false)), none, 0, false⟩,
 ⟨(some 27), .move (.tmp 26), none, 0, false⟩,
 ⟨(some 28), .fieldAddr 1 (.tmp 3), (some (27, true)), 0, false⟩,
 ⟨(some 29), .load1 (.tmp 28), (some (27, true)), 0, false⟩,
 ⟨(some 30), .bin .leq (.tmp 29) (.const (.int .u32 2147483648)), (some (27, true)), 0, false⟩,
 ⟨(some 31), .pick (.tmp 27) (.tmp 30) (.const (.bool false)), none, 0, false⟩,
 ⟨(some 32), .move (.tmp 31), none, 0, false⟩,
 ⟨(some 33), .fieldAddr 4 (.tmp 3), (some (32, true)), 0, false⟩,
 ⟨(some 34), .loadN 2 (.tmp 33), (some (32, true)), 0, false⟩,
 ⟨(some 35), .call (.func 108) [(.tmp 34)], (some (32, true)), 0, false⟩,
 ⟨(some 36), .pick (.tmp 32) (.tmp 35) (.const (.bool false)), none, 0, false⟩,
 ⟨(some 4), .move (.tmp 36), none, 0, false⟩])
 .ret)))⟩

def L222 : LFunc := ⟨32, [.tmp 2, .tmp 3],
 (.seq (.region [⟨(some 1), .box 2 85 (.tmp 0), none, 0, false⟩,
 ⟨(some 2), .move (.const (.slice none 0 0)), none, 0, false⟩,
 ⟨(some 3), .move (.const (.int .i64 0)), none, 0, false⟩])
 (.seq (.seq (.region [⟨(some 7), .loadN 2 (.tmp 1), none, 0, false⟩,
 ⟨(some 8), .call (.func 108) [(.tmp 7)], none, 0, false⟩,
 ⟨(some 9), .un .not (.tmp 8), none, 0, false⟩])
 (.cond (.tmp 9) (.seq (.region [⟨(some 2), .move (.const (.slice none 0 0)), none, 0, false⟩,
 ⟨(some 3), .move (.const (.int .i64 131)), none, 0, false⟩])
 .ret)
 .skip))
 (.seq (.region [⟨(some 10), .fieldAddr 0 (.tmp 1), none, 0, false⟩,
 ⟨(some 11), .load1 (.tmp 10), none, 0, false⟩,
 ⟨(some 12), .buildSlice 1 1 26 [(.int .u64 0)] [(0, 1, (.tmp 11))], none, 0, false⟩,
 ⟨(some 4), .move (.tmp 12), none, 0, false⟩])
 (.seq (.seq (.region [⟨(some 13), .fieldAddr 1 (.tmp 1), none, 0, false⟩,
 ⟨(some 14), .load1 (.tmp 13), none, 0, false⟩,
 ⟨(some 15), .len false (.tmp 14), none, 0, false⟩,
 ⟨(some 16), .move (.const (.int .i64 0)), none, 0, false⟩])
 (.block 0 (.loop (.seq (.region [⟨(some 17), .bin .lss (.tmp 16) (.tmp 15), none, 0, false⟩])
 (.seq (.cond (.tmp 17) .skip
 (.exit 0))
 (.seq (.block 1 (.seq (.region [⟨(some 18), .indexAddr 14 (.tmp 14) (.tmp 16), none, 0, false⟩,
 ⟨(some 19), .loadN 14 (.tmp 18), none, 0, false⟩,
 ⟨(some 6), .alloc [(.int .i64 0), (.int .u8 0), (.int .u8 0), (.int .u8 0), (.int .u8 0), (.int .i64 0), (.int .u64 0), (.int .u64 0), (.int .u64 0), (.int .u64 0), (.int .u64 0), (.int .u64 0), (.int .u64 0), (.int .u64 0)] 121, none, 0, false⟩,
 ⟨none, .store 14 (.tmp 6) (.tmp 19), none, 0, false⟩])
 (.draw [⟨(some 21), .fieldAddr 0 (.tmp 6), none, 0, false⟩,
 ⟨(some 22), .loadN 13 (.tmp 21), none, 0, false⟩,
 ⟨(some 23), .call (.func 115) [(.tmp 22)], none, 0, true⟩,
 ⟨(some 20), .move (.tmp 4), none, 0, false⟩,
 ⟨(some 24), .append 1 8 26 [(.int .u64 0)] false (.tmp 20) (.tmp 23), none, 1, true⟩,
 ⟨(some 25), .fieldAddr 13 (.tmp 6), none, 0, false⟩,
 ⟨(some 26), .load1 (.tmp 25), none, 0, false⟩,
 ⟨(some 27), .buildSlice 1 1 26 [(.int .u64 0)] [(0, 1, (.tmp 26))], none, 0, false⟩,
 ⟨(some 28), .append 1 8 26 [(.int .u64 0)] false (.tmp 24) (.tmp 27), none, 2, true⟩,
 ⟨(some 4), .move (.tmp 28), none, 3, false⟩])))
 (.region [⟨(some 29), .bin .add (.tmp 16) (.const (.int .i64 1)), none, 0, false⟩,
 ⟨(some 16), .move (.tmp 29), none, 0, false⟩])))))))
 (.seq (.region [⟨(some 30), .move (.tmp 4), none, 0, false⟩,
 ⟨(some 31), .call (.func 116) [(.tmp 30)], none, 0, false⟩,
 ⟨(some 2), .move (.tmp 31), none, 0, false⟩,
 ⟨(some 3), .move (.const (.int .i64 0)), none, 0, false⟩])
 .ret)))))⟩

def L223 : LFunc := ⟨18, [.cellN 4 64, .tmp 5],
 (.seq (.region [⟨(some 4), .alloc [(.int .u8 0), (.int .u8 0), (.int .u8 0), (.int .u8 0), (.int .u8 0), (.int .u8 0), (.int .u8 0), (.int .u8 0), (.int .u8 0), (.int .u8 0), (.int .u8 0), (.int .u8 0), (.int .u8 0), (.int .u8 0), (.int .u8 0), (.int .u8 0), (.int .u8 0), (.int .u8 0), (.int .u8 0), (.int .u8 0), (.int .u8 0), (.int .u8 0), (.int .u8 0), (.int .u8 0), (.int .u8 0), (.int .u8 0), (.int .u8 0), (.int .u8 0), (.int .u8 0), (.int .u8 0), (.int .u8 0), (.int .u8 0), (.int .u8 0), (.int .u8 0), (.int .u8 0), (.int .u8 0), (.int .u8 0), (.int .u8 0), (.int .u8 0), (.int .u8 0), (.int .u8 0), (.int .u8 0), (.int .u8 0), (.int .u8 0), (.int .u8 0), (.int .u8 0), (.int .u8 0), (.int .u8 0), (.int .u8 0), (.int .u8 0), (.int .u8 0), (.int .u8 0), (.int .u8 0), (.int .u8 0), (.int .u8 0), (.int .u8 0), (.int .u8 0), (.int .u8 0), (.int .u8 0), (.int .u8 0), (.int .u8 0), (.int .u8 0), (.int .u8 0), (.int .u8 0)] 214, none, 0, false⟩,
 ⟨(some 5), .move (.const (.int .i64 0)), none, 0, false⟩])
 (.seq (.seq (.region [⟨(some 6), .move (.tmp 0), none, 0, false⟩,
 ⟨(some 7), .move (.tmp 1), none, 0, false⟩,
 ⟨(some 8), .call (.func 188) [(.tmp 6), (.tmp 7)], none, 0, false⟩,
 ⟨(some 9), .un .not (.tmp 8), none, 0, false⟩])
 (.cond (.tmp 9) (.seq (.region [⟨(some 10), .build [(.int .u8 0), (.int .u8 0), (.int .u8 0), (.int .u8 0), (.int .u8 0), (.int .u8 0), (.int .u8 0), (.int .u8 0), (.int .u8 0), (.int .u8 0), (.int .u8 0), (.int .u8 0), (.int .u8 0), (.int .u8 0), (.int .u8 0), (.int .u8 0), (.int .u8 0), (.int .u8 0), (.int .u8 0), (.int .u8 0), (.int .u8 0), (.int .u8 0), (.int .u8 0), (.int .u8 0), (.int .u8 0), (.int .u8 0), (.int .u8 0), (.int .u8 0), (.int .u8 0), (.int .u8 0), (.int .u8 0), (.int .u8 0), (.int .u8 0), (.int .u8 0), (.int .u8 0), (.int .u8 0), (.int .u8 0), (.int .u8 0), (.int .u8 0), (.int .u8 0), (.int .u8 0), (.int .u8 0), (.int .u8 0), (.int .u8 0), (.int .u8 0), (.int .u8 0), (.int .u8 0), (.int .u8 0), (.int .u8 0), (.int .u8 0), (.int .u8 0), (.int .u8 0), (.int .u8 0), (.int .u8 0), (.int .u8 0), (.int .u8 0), (.int .u8 0), (.int .u8 0), (.int .u8 0), (.int .u8 0), (.int .u8 0), (.int .u8 0), (.int .u8 0), (.int .u8 0)] [], none, 0, false⟩,
 ⟨none, .store 64 (.tmp 4) (.tmp 10), none, 0, false⟩,
 ⟨(some 5), .move (.const (.int .i64 71)), none, 0, false⟩])
 .ret)
 .skip))
 (.seq (.region [⟨(some 11), .move (.tmp 0), none, 0, false⟩,
 ⟨(some 12), .nilCheck (.tmp 11), none, 0, false⟩,
 ⟨(some 13), .fieldAddr 0 (.tmp 12), none, 0, false⟩,
 ⟨(some 14), .load1 (.tmp 13), none, 0, false⟩,
 ⟨(some 15), .move (.tmp 1), none, 0, false⟩,
 ⟨(some 16), .indexAddr 64 (.tmp 14) (.tmp 15), none, 0, false⟩,
 ⟨(some 17), .loadN 64 (.tmp 16), none, 0, false⟩,
 ⟨none, .store 64 (.tmp 4) (.tmp 17), none, 0, false⟩,
 ⟨(some 5), .move (.const (.int .i64 0)), none, 0, false⟩])
 .ret)))⟩

def L224 : LFunc := ⟨19, [.tmp 2],
 (.seq (.region [⟨(some 2), .move (.const (.int .u64 0)), none, 0, false⟩])
 (.seq (.region [⟨(some 3), .move (.const (.int .u64 0)), none, 0, false⟩])
 (.seq (.seq (.region [⟨(some 6), .move (.tmp 0), none, 0, false⟩,
 ⟨(some 7), .len false (.tmp 6), none, 0, false⟩,
 ⟨(some 8), .move (.const (.int .i64 0)), none, 0, false⟩])
 (.block 0 (.loop (.seq (.region [⟨(some 9), .bin .lss (.tmp 8) (.tmp 7), none, 0, false⟩])
 (.seq (.cond (.tmp 9) .skip
 (.exit 0))
 (.seq (.block 1 (.seq (.region [⟨(some 10), .indexAddr 1 (.tmp 6) (.tmp 8), none, 0, false⟩,
 ⟨(some 11), .load1 (.tmp 10), none, 0, false⟩,
 ⟨(some 5), .move (.tmp 11), none, 0, false⟩])
 (.region [⟨(some 12), .move (.tmp 3), none, 0, false⟩,
 ⟨(some 13), .bin .shl (.tmp 12) (.const (.int .u64 8)), none, 0, false⟩,
 ⟨(some 14), .move (.tmp 5), none, 0, false⟩,
 ⟨(some 15), .conv (.int .u64) (.tmp 14), none, 0, false⟩,
 ⟨(some 16), .bin .or (.tmp 13) (.tmp 15), none, 0, false⟩,
 ⟨(some 3), .move (.tmp 16), none, 0, false⟩])))
 (.region [⟨(some 17), .bin .add (.tmp 8) (.const (.int .i64 1)), none, 0, false⟩,
 ⟨(some 8), .move (.tmp 17), none, 0, false⟩])))))))
 (.seq (.region [⟨(some 18), .move (.tmp 3), none, 0, false⟩,
 ⟨(some 2), .move (.tmp 18), none, 0, false⟩])
 .ret))))⟩

def L225 : LFunc := ⟨27, [.tmp 2, .tmp 3],
 (.seq (.region [⟨(some 2), .move (.const (.slice none 0 0)), none, 0, false⟩,
 ⟨(some 3), .move (.const (.bool false)), none, 0, false⟩])
 (.seq (.region [⟨(some 5), .move (.tmp 0), none, 0, false⟩,
 ⟨(some 6), .len false (.tmp 5), none, 0, false⟩,
 ⟨(some 7), .bin .sub (.tmp 6) (.const (.int .i64 4)), none, 0, false⟩,
 ⟨(some 4), .move (.tmp 7), none, 0, false⟩])
 (.seq (.seq (.draw [⟨(some 8), .move (.tmp 4), none, 0, false⟩,
 ⟨(some 9), .bin .lss (.tmp 8) (.const (.int .i64 0)), none, 0, false⟩,
 ⟨(some 10), .move (.tmp 9), none, 0, false⟩,
 ⟨(some 11), .move (.tmp 0), (some (10, false)), 0, false⟩,
 ⟨(some 12), .move (.tmp 4), (some (10, false)), 0, false⟩,
 ⟨(some 13), .slice 1 (.tmp 11) none (some (.tmp 12)) none, (some (10, false)), 0, false⟩,
 ⟨(some 14), .buildSlice 1 1 36 [(.slice none 0 0)] [(0, 1, (.tmp 13))], (some (10, false)), 0, false⟩,
 ⟨(some 15), .call (.func 240) [(.tmp 14)], (some (10, false)), 0, true⟩,
 ⟨(some 16), .call (.func 239) [(.tmp 15)], (some (10, false)), 1, true⟩,
 ⟨(some 17), .move (.tmp 0), (some (10, false)), 0, false⟩,
 ⟨(some 18), .move (.tmp 4), (some (10, false)), 0, false⟩,
 ⟨(some 19), .slice 1 (.tmp 17) (some (.tmp 18)) none none, (some (10, false)), 0, false⟩,
 ⟨(some 20), .call (.func 251) [(.tmp 16), (.tmp 19)], (some (10, false)), 2, true⟩,
 ⟨(some 21), .un .not (.tmp 20), (some (10, false)), 3, false⟩,
 ⟨(some 22), .pick (.tmp 10) (.const (.bool true)) (.tmp 21), none, 3, false⟩])
 (.cond (.tmp 22) (.seq (.region [⟨(some 2), .move (.const (.slice none 0 0)), none, 0, false⟩,
 ⟨(some 3), .move (.const (.bool false)), none, 0, false⟩])
 .ret)
 .skip))
 (.seq (.region [⟨(some 23), .move (.tmp 0), none, 0, false⟩,
 ⟨(some 24), .move (.tmp 4), none, 0, false⟩,
 ⟨(some 25), .slice 1 (.tmp 23) none (some (.tmp 24)) none, none, 0, false⟩,
 ⟨(some 26), .call (.func 132) [(.tmp 25)], none, 0, false⟩,
 ⟨(some 2), .move (.tmp 26), none, 0, false⟩,
 ⟨(some 3), .move (.const (.bool true)), none, 0, false⟩])
 .ret))))⟩

def L226 : LFunc := ⟨9, [.tmp 4],
 (.seq (.region [⟨(some 4), .move (.const (.bool false)), none, 0, false⟩])
 (.seq (.region [⟨(some 5), .move (.tmp 0), none, 0, false⟩,
 ⟨(some 6), .move (.tmp 1), none, 0, false⟩,
 ⟨(some 7), .call (.func 252) [(.tmp 5), (.tmp 6)], none, 0, false⟩,
 ⟨(some 8), .bin .geq (.tmp 7) (.const (.int .i64 0)), none, 0, false⟩,
 ⟨(some 4), .move (.tmp 8), none, 0, false⟩])
 .ret))⟩

def L227 : LFunc := ⟨5, [.tmp 2],
 (.seq (.region [⟨(some 2), .move (.const (.bool false)), none, 0, false⟩])
 (.seq (.region [⟨(some 3), .move (.tmp 0), none, 0, false⟩,
 ⟨(some 4), .bin .neq (.tmp 3) (.const (.int .u8 0)), none, 0, false⟩,
 ⟨(some 2), .move (.tmp 4), none, 0, false⟩])
 .ret))⟩

def L228 : LFunc := ⟨56, [.cellN 2 2, .cell1 3],
 (.seq (.region [⟨(some 2), .alloc [(.int .u64 0), (.slice none 0 0)] 85, none, 0, false⟩,
 ⟨(some 3), .alloc [(.int .i64 0)] 23, none, 0, false⟩])
 (.seq (.region [⟨(some 11), .move (.tmp 0), none, 0, false⟩,
 ⟨(some 12), .call (.func 104) [(.tmp 11)], none, 0, false⟩,
 ⟨(some 10), .move (.tmp 12), none, 0, false⟩,
 ⟨(some 13), .extract (.tmp 10) 0, none, 0, false⟩,
 ⟨(some 14), .extract (.tmp 10) 1, none, 0, false⟩,
 ⟨(some 4), .move (.tmp 13), none, 0, false⟩,
 ⟨(some 5), .move (.tmp 14), none, 0, false⟩])
 (.seq (.seq (.region [⟨(some 15), .move (.tmp 5), none, 0, false⟩,
 ⟨(some 16), .bin .neq (.tmp 15) (.const (.int .i64 0)), none, 0, false⟩,
 ⟨(some 17), .move (.tmp 16), none, 0, false⟩,
 ⟨(some 18), .move (.tmp 4), (some (17, false)), 0, false⟩,
 ⟨(some 19), .len false (.tmp 18), (some (17, false)), 0, false⟩,
 ⟨(some 20), .bin .rem (.tmp 19) (.const (.int .i64 11)), (some (17, false)), 0, false⟩,
 ⟨(some 21), .bin .neq (.tmp 20) (.const (.int .i64 1)), (some (17, false)), 0, false⟩,
 ⟨(some 22), .pick (.tmp 17) (.const (.bool true)) (.tmp 21), none, 0, false⟩])
 (.cond (.tmp 22) (.seq (.region [⟨(some 23), .build [(.int .u64 0), (.slice none 0 0)] [], none, 0, false⟩,
 ⟨none, .store 2 (.tmp 2) (.tmp 23), none, 0, false⟩,
 ⟨none, .store 1 (.tmp 3) (.const (.int .i64 131)), none, 0, false⟩])
 .ret)
 .skip))
 (.seq (.region [⟨(some 24), .move (.tmp 4), none, 0, false⟩,
 ⟨(some 25), .indexAddr 1 (.tmp 24) (.const (.int .i64 0)), none, 0, false⟩,
 ⟨(some 26), .load1 (.tmp 25), none, 0, false⟩,
 ⟨(some 27), .build [(.int .u64 0), (.slice none 0 0)] [(0, 1, (.tmp 26))], none, 0, false⟩,
 ⟨(some 6), .alloc [(.int .u64 0), (.slice none 0 0)] 85, none, 0, false⟩,
 ⟨none, .store 2 (.tmp 6) (.tmp 27), none, 0, false⟩])
 (.seq (.seq (.region [⟨(some 28), .move (.tmp 4), none, 0, false⟩,
 ⟨(some 29), .slice 1 (.tmp 28) (some (.const (.int .i64 1))) none none, none, 0, false⟩,
 ⟨(some 30), .call (.func 165) [(.tmp 29), (.const (.int .i64 11))], none, 0, false⟩])
 (.block 0 (.rangeFunc (.tmp 30) [31] (.region [⟨(some 7), .move (.tmp 31), none, 0, false⟩]) (.block 1 (.seq (.region [⟨(some 33), .move (.tmp 7), none, 0, false⟩,
 ⟨(some 34), .slice 1 (.tmp 33) none (some (.const (.int .i64 10))) none, none, 0, false⟩,
 ⟨(some 35), .call (.func 166) [(.tmp 34)], none, 0, false⟩,
 ⟨(some 32), .move (.tmp 35), none, 0, false⟩,
 ⟨(some 36), .extract (.tmp 32) 0, none, 0, false⟩,
 ⟨(some 37), .extract (.tmp 32) 1, none, 0, false⟩,
 ⟨(some 8), .alloc [(.int .i64 0), (.int .u8 0), (.int .u8 0), (.int .u8 0), (.int .u8 0), (.int .i64 0), (.int .u64 0), (.int .u64 0), (.int .u64 0), (.int .u64 0), (.int .u64 0), (.int .u64 0), (.int .u64 0)] 42, none, 0, false⟩,
 ⟨none, .store 13 (.tmp 8) (.tmp 36), none, 0, false⟩,
 ⟨(some 9), .move (.tmp 37), none, 0, false⟩])
 (.seq (.seq (.region [⟨(some 38), .move (.tmp 9), none, 0, false⟩,
 ⟨(some 39), .bin .neq (.tmp 38) (.const (.int .i64 0)), none, 0, false⟩])
 (.cond (.tmp 39) (.seq (.region [⟨(some 40), .build [(.int .u64 0), (.slice none 0 0)] [], none, 0, false⟩,
 ⟨none, .store 2 (.tmp 2) (.tmp 40), none, 0, false⟩,
 ⟨none, .store 1 (.tmp 3) (.const (.int .i64 131)), none, 0, false⟩])
 .ret)
 .skip))
 (.draw [⟨(some 41), .fieldAddr 1 (.tmp 6), none, 0, false⟩,
 ⟨(some 42), .load1 (.tmp 41), none, 0, false⟩,
 ⟨(some 43), .loadN 13 (.tmp 8), none, 0, false⟩,
 ⟨(some 44), .move (.tmp 7), none, 0, false⟩,
 ⟨(some 45), .indexAddr 1 (.tmp 44) (.const (.int .i64 10)), none, 0, false⟩,
 ⟨(some 46), .load1 (.tmp 45), none, 0, false⟩,
 ⟨(some 47), .build [(.int .i64 0), (.int .u8 0), (.int .u8 0), (.int .u8 0), (.int .u8 0), (.int .i64 0), (.int .u64 0), (.int .u64 0), (.int .u64 0), (.int .u64 0), (.int .u64 0), (.int .u64 0), (.int .u64 0), (.int .u64 0)] [(0, 13, (.tmp 43)), (13, 1, (.tmp 46))], none, 0, false⟩,
 ⟨(some 48), .buildSlice 1 14 121 [(.int .i64 0), (.int .u8 0), (.int .u8 0), (.int .u8 0), (.int .u8 0), (.int .i64 0), (.int .u64 0), (.int .u64 0), (.int .u64 0), (.int .u64 0), (.int .u64 0), (.int .u64 0), (.int .u64 0), (.int .u64 0)] [(0, 14, (.tmp 47))], none, 0, false⟩,
 ⟨(some 49), .append 14 88 121 [(.int .i64 0), (.int .u8 0), (.int .u8 0), (.int .u8 0), (.int .u8 0), (.int .i64 0), (.int .u64 0), (.int .u64 0), (.int .u64 0), (.int .u64 0), (.int .u64 0), (.int .u64 0), (.int .u64 0), (.int .u64 0)] false (.tmp 42) (.tmp 48), none, 0, true⟩,
 ⟨(some 50), .fieldAddr 1 (.tmp 6), none, 1, false⟩,
 ⟨none, .store 1 (.tmp 50) (.tmp 49), none, 1, true⟩])))))))
 (.seq (.seq (.region [⟨(some 51), .loadN 2 (.tmp 6), none, 0, false⟩,
 ⟨(some 52), .call (.func 108) [(.tmp 51)], none, 0, false⟩,
 ⟨(some 53), .un .not (.tmp 52), none, 0, false⟩])
 (.cond (.tmp 53) (.seq (.region [⟨(some 54), .build [(.int .u64 0), (.slice none 0 0)] [], none, 0, false⟩,
 ⟨none, .store 2 (.tmp 2) (.tmp 54), none, 0, false⟩,
 ⟨none, .store 1 (.tmp 3) (.const (.int .i64 131)), none, 0, false⟩])
 .ret)
 .skip))
 (.seq (.region [⟨(some 55), .loadN 2 (.tmp 6), none, 0, false⟩,
 ⟨none, .store 2 (.tmp 2) (.tmp 55), none, 0, false⟩,
 ⟨none, .store 1 (.tmp 3) (.const (.int .i64 0)), none, 0, false⟩])
 .ret)))))))⟩

end Go.Proofs.YtomdpjbnddfkpaaGreat.LN
