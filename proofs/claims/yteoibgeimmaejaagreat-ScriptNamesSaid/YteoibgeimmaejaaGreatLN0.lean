/- THE COMPILED FORMS of functions of the program, written by a program of ours; proved to be what the compiler gives. -/
import Derived.Test.YteoibgeimmaejaaGreatFa
namespace Go.Proofs.YteoibgeimmaejaaGreat.LN
open Go Go.L1
set_option maxRecDepth 100000
def L3 : LFunc := ⟨46, [.tmp 0],
 (.seq (.region [⟨(some 0), .move (.const (.bool false)), none, 0, false⟩])
 (.seq (.region [⟨(some 1), .move (.const (.bool true)), none, 0, false⟩])
 (.seq (.region [⟨(some 9), .build [(.int .i64 0), (.int .i64 0), (.int .u64 0)] [], none, 0, false⟩,
 ⟨(some 10), .build [(.int .i64 0), (.int .i64 0), (.int .i64 0), (.int .u64 0), (.slice none 0 0), (.int .i64 0), (.int .u8 0), (.int .u8 0), (.int .u8 0), (.int .u8 0), (.int .i64 0), (.int .u64 0), (.int .u64 0), (.int .u64 0), (.int .u64 0), (.int .u64 0), (.int .u64 0), (.int .u64 0), (.slice none 0 0)] [(0, 1, (.const (.int .i64 13)))], none, 0, false⟩,
 ⟨(some 11), .buildSlice 1 19 37 [(.int .i64 0), (.int .i64 0), (.int .i64 0), (.int .u64 0), (.slice none 0 0), (.int .i64 0), (.int .u8 0), (.int .u8 0), (.int .u8 0), (.int .u8 0), (.int .i64 0), (.int .u64 0), (.int .u64 0), (.int .u64 0), (.int .u64 0), (.int .u64 0), (.int .u64 0), (.int .u64 0), (.slice none 0 0)] [(0, 19, (.tmp 10))], none, 0, false⟩,
 ⟨(some 12), .call (.func 7) [(.tmp 9), (.tmp 11)], none, 0, false⟩,
 ⟨(some 8), .move (.tmp 12), none, 0, false⟩,
 ⟨(some 13), .extract (.tmp 8) 0, none, 0, false⟩,
 ⟨(some 14), .extract (.tmp 8) 1, none, 0, false⟩,
 ⟨(some 2), .move (.tmp 13), none, 0, false⟩,
 ⟨(some 3), .move (.tmp 14), none, 0, false⟩])
 (.seq (.region [⟨(some 16), .build [(.int .i64 0), (.int .i64 0), (.int .u64 0)] [], none, 0, false⟩,
 ⟨(some 17), .call (.func 8) [(.tmp 16), (.const (.slice none 0 0))], none, 0, false⟩,
 ⟨(some 15), .move (.tmp 17), none, 0, false⟩,
 ⟨(some 18), .extract (.tmp 15) 0, none, 0, false⟩,
 ⟨(some 19), .extract (.tmp 15) 1, none, 0, false⟩,
 ⟨(some 4), .move (.tmp 18), none, 0, false⟩,
 ⟨(some 5), .move (.tmp 19), none, 0, false⟩])
 (.seq (.region [⟨(some 21), .call (.func 9) [(.const (.slice none 0 0))], none, 0, false⟩,
 ⟨(some 20), .move (.tmp 21), none, 0, false⟩,
 ⟨(some 22), .extract (.tmp 20) 0, none, 0, false⟩,
 ⟨(some 23), .extract (.tmp 20) 1, none, 0, false⟩,
 ⟨(some 6), .move (.tmp 22), none, 0, false⟩,
 ⟨(some 7), .move (.tmp 23), none, 0, false⟩])
 (.seq (.region [⟨(some 24), .call (.func 10) [], none, 0, false⟩,
 ⟨(some 25), .move (.tmp 24), none, 0, false⟩,
 ⟨(some 26), .move (.tmp 1), (some (25, true)), 0, false⟩,
 ⟨(some 27), .pick (.tmp 25) (.tmp 26) (.const (.bool false)), none, 0, false⟩,
 ⟨(some 28), .move (.tmp 27), none, 0, false⟩,
 ⟨(some 29), .pick (.tmp 28) (.const (.bool true)) (.const (.bool false)), none, 0, false⟩,
 ⟨(some 30), .move (.tmp 29), none, 0, false⟩,
 ⟨(some 31), .pick (.tmp 30) (.const (.bool true)) (.const (.bool false)), none, 0, false⟩,
 ⟨(some 32), .move (.tmp 31), none, 0, false⟩,
 ⟨(some 33), .pick (.tmp 32) (.const (.bool true)) (.const (.bool false)), none, 0, false⟩,
 ⟨(some 34), .move (.tmp 33), none, 0, false⟩,
 ⟨(some 35), .move (.tmp 3), (some (34, true)), 0, false⟩,
 ⟨(some 36), .bin .eql (.tmp 35) (.const (.int .i64 221)), (some (34, true)), 0, false⟩,
 ⟨(some 37), .pick (.tmp 34) (.tmp 36) (.const (.bool false)), none, 0, false⟩,
 ⟨(some 38), .move (.tmp 37), none, 0, false⟩,
 ⟨(some 39), .move (.tmp 5), (some (38, true)), 0, false⟩,
 ⟨(some 40), .bin .eql (.tmp 39) (.const (.int .i64 211)), (some (38, true)), 0, false⟩,
 ⟨(some 41), .pick (.tmp 38) (.tmp 40) (.const (.bool false)), none, 0, false⟩,
 ⟨(some 42), .move (.tmp 41), none, 0, false⟩,
 ⟨(some 43), .move (.tmp 7), (some (42, true)), 0, false⟩,
 ⟨(some 44), .bin .eql (.tmp 43) (.const (.int .i64 221)), (some (42, true)), 0, false⟩,
 ⟨(some 45), .pick (.tmp 42) (.tmp 44) (.const (.bool false)), none, 0, false⟩,
 ⟨(some 0), .move (.tmp 45), none, 0, false⟩])
 .ret))))))⟩

def L7 : LFunc := ⟨37, [.tmp 4, .tmp 5],
 (.seq (.region [⟨(some 2), .box 3 28 (.tmp 0), none, 0, false⟩,
 ⟨(some 4), .move (.const (.slice none 0 0)), none, 0, false⟩,
 ⟨(some 5), .move (.const (.int .i64 0)), none, 0, false⟩])
 (.seq (.seq (.region [⟨(some 9), .move (.tmp 1), none, 0, false⟩,
 ⟨(some 10), .call (.func 20) [(.tmp 9)], none, 0, false⟩,
 ⟨(some 11), .un .not (.tmp 10), none, 0, false⟩])
 (.cond (.tmp 11) (.seq (.region [⟨(some 4), .move (.const (.slice none 0 0)), none, 0, false⟩,
 ⟨(some 5), .move (.const (.int .i64 221)), none, 0, false⟩])
 .ret)
 .skip))
 (.seq (.draw [⟨(some 12), .fieldAddr 0 (.tmp 2), none, 0, false⟩,
 ⟨(some 13), .load1 (.tmp 12), none, 0, false⟩,
 ⟨(some 14), .call (.func 22) [(.tmp 13)], none, 0, true⟩,
 ⟨(some 15), .fieldAddr 1 (.tmp 2), none, 0, false⟩,
 ⟨(some 16), .load1 (.tmp 15), none, 0, false⟩,
 ⟨(some 17), .call (.func 22) [(.tmp 16)], none, 1, true⟩,
 ⟨(some 18), .fieldAddr 2 (.tmp 2), none, 0, false⟩,
 ⟨(some 19), .load1 (.tmp 18), none, 0, false⟩,
 ⟨(some 20), .move (.tmp 1), none, 0, false⟩,
 ⟨(some 21), .len false (.tmp 20), none, 0, false⟩,
 ⟨(some 22), .conv (.int .u64) (.tmp 21), none, 0, false⟩,
 ⟨(some 23), .buildSlice 4 1 26 [(.int .u64 0), (.int .u64 0), (.int .u64 0), (.int .u64 0)] [(0, 1, (.tmp 14)), (1, 1, (.tmp 17)), (2, 1, (.tmp 19)), (3, 1, (.tmp 22))], none, 2, false⟩,
 ⟨(some 24), .call (.func 21) [(.tmp 23)], none, 2, true⟩,
 ⟨(some 6), .move (.tmp 24), none, 3, false⟩])
 (.seq (.seq (.region [⟨(some 25), .move (.tmp 1), none, 0, false⟩,
 ⟨(some 26), .len false (.tmp 25), none, 0, false⟩,
 ⟨(some 27), .move (.const (.int .i64 0)), none, 0, false⟩])
 (.block 0 (.loop (.seq (.region [⟨(some 28), .bin .lss (.tmp 27) (.tmp 26), none, 0, false⟩])
 (.seq (.cond (.tmp 28) .skip
 (.exit 0))
 (.seq (.block 1 (.seq (.region [⟨(some 29), .indexAddr 19 (.tmp 25) (.tmp 27), none, 0, false⟩,
 ⟨(some 30), .loadN 19 (.tmp 29), none, 0, false⟩,
 ⟨(some 8), .alloc [(.int .i64 0), (.int .i64 0), (.int .i64 0), (.int .u64 0), (.slice none 0 0), (.int .i64 0), (.int .u8 0), (.int .u8 0), (.int .u8 0), (.int .u8 0), (.int .i64 0), (.int .u64 0), (.int .u64 0), (.int .u64 0), (.int .u64 0), (.int .u64 0), (.int .u64 0), (.int .u64 0), (.slice none 0 0)] 37, none, 0, false⟩,
 ⟨none, .store 19 (.tmp 8) (.tmp 30), none, 0, false⟩])
 (.region [⟨(some 31), .move (.tmp 6), none, 0, false⟩,
 ⟨(some 32), .loadN 19 (.tmp 8), none, 0, false⟩,
 ⟨(some 33), .call (.func 23) [(.tmp 32)], none, 0, false⟩,
 ⟨(some 34), .append 1 1 5 [(.int .u8 0)] false (.tmp 31) (.tmp 33), none, 0, false⟩,
 ⟨(some 6), .move (.tmp 34), none, 0, false⟩])))
 (.region [⟨(some 35), .bin .add (.tmp 27) (.const (.int .i64 1)), none, 0, false⟩,
 ⟨(some 27), .move (.tmp 35), none, 0, false⟩])))))))
 (.seq (.region [⟨(some 36), .move (.tmp 6), none, 0, false⟩,
 ⟨(some 4), .move (.tmp 36), none, 0, false⟩,
 ⟨(some 5), .move (.const (.int .i64 0)), none, 0, false⟩])
 .ret)))))⟩

def L8 : LFunc := ⟨34, [.tmp 4, .tmp 5],
 (.seq (.region [⟨(some 2), .box 3 28 (.tmp 0), none, 0, false⟩,
 ⟨(some 4), .move (.const (.slice none 0 0)), none, 0, false⟩,
 ⟨(some 5), .move (.const (.int .i64 0)), none, 0, false⟩])
 (.seq (.region [⟨(some 12), .loadN 3 (.tmp 2), none, 0, false⟩,
 ⟨(some 13), .move (.tmp 1), none, 0, false⟩,
 ⟨(some 14), .call (.func 24) [(.tmp 12), (.tmp 13)], none, 0, false⟩,
 ⟨(some 11), .move (.tmp 14), none, 0, false⟩,
 ⟨(some 15), .extract (.tmp 11) 0, none, 0, false⟩,
 ⟨(some 16), .extract (.tmp 11) 1, none, 0, false⟩,
 ⟨(some 6), .move (.tmp 15), none, 0, false⟩,
 ⟨(some 7), .move (.tmp 16), none, 0, false⟩])
 (.seq (.seq (.region [⟨(some 17), .move (.tmp 7), none, 0, false⟩,
 ⟨(some 18), .bin .neq (.tmp 17) (.const (.int .i64 0)), none, 0, false⟩])
 (.cond (.tmp 18) (.seq (.region [⟨(some 19), .move (.tmp 7), none, 0, false⟩,
 ⟨(some 4), .move (.const (.slice none 0 0)), none, 0, false⟩,
 ⟨(some 5), .move (.tmp 19), none, 0, false⟩])
 .ret)
 .skip))
 (.seq (.region [⟨(some 8), .move (.const (.slice none 0 0)), none, 0, false⟩])
 (.seq (.seq (.region [⟨(some 20), .move (.tmp 1), none, 0, false⟩,
 ⟨(some 21), .len false (.tmp 20), none, 0, false⟩,
 ⟨(some 22), .move (.const (.int .i64 0)), none, 0, false⟩])
 (.block 0 (.loop (.seq (.region [⟨(some 23), .bin .lss (.tmp 22) (.tmp 21), none, 0, false⟩])
 (.seq (.cond (.tmp 23) .skip
 (.exit 0))
 (.seq (.block 1 (.seq (.region [⟨(some 24), .indexAddr 19 (.tmp 20) (.tmp 22), none, 0, false⟩,
 ⟨(some 25), .loadN 19 (.tmp 24), none, 0, false⟩,
 ⟨(some 10), .alloc [(.int .i64 0), (.int .i64 0), (.int .i64 0), (.int .u64 0), (.slice none 0 0), (.int .i64 0), (.int .u8 0), (.int .u8 0), (.int .u8 0), (.int .u8 0), (.int .i64 0), (.int .u64 0), (.int .u64 0), (.int .u64 0), (.int .u64 0), (.int .u64 0), (.int .u64 0), (.int .u64 0), (.slice none 0 0)] 37, none, 0, false⟩,
 ⟨none, .store 19 (.tmp 10) (.tmp 25), none, 0, false⟩])
 (.region [⟨(some 26), .move (.tmp 8), none, 0, false⟩,
 ⟨(some 27), .move (.tmp 6), none, 0, false⟩,
 ⟨(some 28), .loadN 19 (.tmp 10), none, 0, false⟩,
 ⟨(some 29), .call (.func 25) [(.tmp 27), (.tmp 28)], none, 0, false⟩,
 ⟨(some 30), .buildSlice 1 28 69 [(.int .i64 0), (.int .i64 0), (.bool false), (.int .i64 0), (.int .i64 0), (.bool false), (.slice none 0 0), (.int .u64 0), (.int .i64 0), (.bool false), (.int .i64 0), (.int .u8 0), (.int .u8 0), (.int .u8 0), (.int .u8 0), (.int .i64 0), (.int .u64 0), (.int .u64 0), (.int .u64 0), (.int .u64 0), (.int .u64 0), (.int .u64 0), (.int .u64 0), (.int .u64 0), (.int .u64 0), (.int .i64 0), (.int .u64 0), (.int .u64 0)] [(0, 28, (.tmp 29))], none, 0, false⟩,
 ⟨(some 31), .append 28 216 69 [(.int .i64 0), (.int .i64 0), (.bool false), (.int .i64 0), (.int .i64 0), (.bool false), (.slice none 0 0), (.int .u64 0), (.int .i64 0), (.bool false), (.int .i64 0), (.int .u8 0), (.int .u8 0), (.int .u8 0), (.int .u8 0), (.int .i64 0), (.int .u64 0), (.int .u64 0), (.int .u64 0), (.int .u64 0), (.int .u64 0), (.int .u64 0), (.int .u64 0), (.int .u64 0), (.int .u64 0), (.int .i64 0), (.int .u64 0), (.int .u64 0)] false (.tmp 26) (.tmp 30), none, 0, false⟩,
 ⟨(some 8), .move (.tmp 31), none, 0, false⟩])))
 (.region [⟨(some 32), .bin .add (.tmp 22) (.const (.int .i64 1)), none, 0, false⟩,
 ⟨(some 22), .move (.tmp 32), none, 0, false⟩])))))))
 (.seq (.region [⟨(some 33), .move (.tmp 8), none, 0, false⟩,
 ⟨(some 4), .move (.tmp 33), none, 0, false⟩,
 ⟨(some 5), .move (.const (.int .i64 0)), none, 0, false⟩])
 .ret))))))⟩

def L9 : LFunc := ⟨21, [.tmp 2, .tmp 3],
 (.seq (.region [⟨(some 2), .move (.const (.slice none 0 0)), none, 0, false⟩,
 ⟨(some 3), .move (.const (.int .i64 0)), none, 0, false⟩])
 (.seq (.region [⟨(some 8), .move (.tmp 0), none, 0, false⟩,
 ⟨(some 9), .call (.func 17) [(.tmp 8)], none, 0, false⟩,
 ⟨(some 7), .move (.tmp 9), none, 0, false⟩,
 ⟨(some 10), .extract (.tmp 7) 0, none, 0, false⟩,
 ⟨(some 11), .extract (.tmp 7) 1, none, 0, false⟩,
 ⟨(some 12), .extract (.tmp 7) 2, none, 0, false⟩,
 ⟨(some 4), .alloc [(.int .i64 0), (.int .i64 0), (.int .u64 0)] 28, none, 0, false⟩,
 ⟨none, .store 3 (.tmp 4) (.tmp 10), none, 0, false⟩,
 ⟨(some 5), .move (.tmp 11), none, 0, false⟩,
 ⟨(some 6), .move (.tmp 12), none, 0, false⟩])
 (.seq (.seq (.region [⟨(some 13), .move (.tmp 6), none, 0, false⟩,
 ⟨(some 14), .bin .neq (.tmp 13) (.const (.int .i64 0)), none, 0, false⟩])
 (.cond (.tmp 14) (.seq (.region [⟨(some 15), .move (.tmp 6), none, 0, false⟩,
 ⟨(some 2), .move (.const (.slice none 0 0)), none, 0, false⟩,
 ⟨(some 3), .move (.tmp 15), none, 0, false⟩])
 .ret)
 .skip))
 (.seq (.region [⟨(some 16), .loadN 3 (.tmp 4), none, 0, false⟩,
 ⟨(some 17), .move (.tmp 5), none, 0, false⟩,
 ⟨(some 18), .call (.func 8) [(.tmp 16), (.tmp 17)], none, 0, false⟩,
 ⟨(some 19), .extract (.tmp 18) 0, none, 0, false⟩,
 ⟨(some 20), .extract (.tmp 18) 1, none, 0, false⟩,
 ⟨(some 2), .move (.tmp 19), none, 0, false⟩,
 ⟨(some 3), .move (.tmp 20), none, 0, false⟩])
 .ret))))⟩

def L10 : LFunc := ⟨63, [.tmp 0],
 (.seq (.region [⟨(some 0), .move (.const (.bool false)), none, 0, false⟩])
 (.seq (.region [⟨(some 9), .build [(.int .i64 0), (.int .i64 0), (.int .u64 0)] [(0, 1, (.const (.int .i64 64))), (1, 1, (.const (.int .i64 1))), (2, 1, (.const (.int .u64 9)))], none, 0, false⟩,
 ⟨(some 1), .alloc [(.int .i64 0), (.int .i64 0), (.int .u64 0)] 28, none, 0, false⟩,
 ⟨none, .store 3 (.tmp 1) (.tmp 9), none, 0, false⟩])
 (.seq (.region [⟨(some 10), .build [(.int .i64 0), (.int .i64 0), (.int .i64 0), (.int .u64 0), (.slice none 0 0), (.int .i64 0), (.int .u8 0), (.int .u8 0), (.int .u8 0), (.int .u8 0), (.int .i64 0), (.int .u64 0), (.int .u64 0), (.int .u64 0), (.int .u64 0), (.int .u64 0), (.int .u64 0), (.int .u64 0), (.slice none 0 0)] [(0, 1, (.const (.int .i64 1))), (3, 1, (.const (.int .u64 3)))], none, 0, false⟩,
 ⟨(some 11), .build [(.int .i64 0), (.int .i64 0), (.int .i64 0), (.int .u64 0), (.slice none 0 0), (.int .i64 0), (.int .u8 0), (.int .u8 0), (.int .u8 0), (.int .u8 0), (.int .i64 0), (.int .u64 0), (.int .u64 0), (.int .u64 0), (.int .u64 0), (.int .u64 0), (.int .u64 0), (.int .u64 0), (.slice none 0 0)] [(0, 1, (.const (.int .i64 8))), (1, 1, (.const (.int .i64 1)))], none, 0, false⟩,
 ⟨(some 12), .buildSlice 2 19 37 [(.int .i64 0), (.int .i64 0), (.int .i64 0), (.int .u64 0), (.slice none 0 0), (.int .i64 0), (.int .u8 0), (.int .u8 0), (.int .u8 0), (.int .u8 0), (.int .i64 0), (.int .u64 0), (.int .u64 0), (.int .u64 0), (.int .u64 0), (.int .u64 0), (.int .u64 0), (.int .u64 0), (.slice none 0 0), (.int .i64 0), (.int .i64 0), (.int .i64 0), (.int .u64 0), (.slice none 0 0), (.int .i64 0), (.int .u8 0), (.int .u8 0), (.int .u8 0), (.int .u8 0), (.int .i64 0), (.int .u64 0), (.int .u64 0), (.int .u64 0), (.int .u64 0), (.int .u64 0), (.int .u64 0), (.int .u64 0), (.slice none 0 0)] [(0, 19, (.tmp 10)), (19, 19, (.tmp 11))], none, 0, false⟩,
 ⟨(some 2), .move (.tmp 12), none, 0, false⟩])
 (.seq (.region [⟨(some 14), .loadN 3 (.tmp 1), none, 0, false⟩,
 ⟨(some 15), .move (.tmp 2), none, 0, false⟩,
 ⟨(some 16), .call (.func 8) [(.tmp 14), (.tmp 15)], none, 0, false⟩,
 ⟨(some 13), .move (.tmp 16), none, 0, false⟩,
 ⟨(some 17), .extract (.tmp 13) 0, none, 0, false⟩,
 ⟨(some 18), .extract (.tmp 13) 1, none, 0, false⟩,
 ⟨(some 3), .move (.tmp 17), none, 0, false⟩,
 ⟨(some 4), .move (.tmp 18), none, 0, false⟩])
 (.seq (.region [⟨(some 20), .loadN 3 (.tmp 1), none, 0, false⟩,
 ⟨(some 21), .move (.tmp 2), none, 0, false⟩,
 ⟨(some 22), .call (.func 7) [(.tmp 20), (.tmp 21)], none, 0, false⟩,
 ⟨(some 19), .move (.tmp 22), none, 0, false⟩,
 ⟨(some 23), .extract (.tmp 19) 0, none, 0, false⟩,
 ⟨(some 24), .extract (.tmp 19) 1, none, 0, false⟩,
 ⟨(some 5), .move (.tmp 23), none, 0, false⟩,
 ⟨(some 6), .move (.tmp 24), none, 0, false⟩])
 (.seq (.region [⟨(some 26), .move (.tmp 5), none, 0, false⟩,
 ⟨(some 27), .call (.func 9) [(.tmp 26)], none, 0, false⟩,
 ⟨(some 25), .move (.tmp 27), none, 0, false⟩,
 ⟨(some 28), .extract (.tmp 25) 0, none, 0, false⟩,
 ⟨(some 29), .extract (.tmp 25) 1, none, 0, false⟩,
 ⟨(some 7), .move (.tmp 28), none, 0, false⟩,
 ⟨(some 8), .move (.tmp 29), none, 0, false⟩])
 (.seq (.region [⟨(some 30), .move (.tmp 4), none, 0, false⟩,
 ⟨(some 31), .bin .eql (.tmp 30) (.const (.int .i64 0)), none, 0, false⟩,
 ⟨(some 32), .move (.tmp 31), none, 0, false⟩,
 ⟨(some 33), .move (.tmp 6), (some (32, true)), 0, false⟩,
 ⟨(some 34), .bin .eql (.tmp 33) (.const (.int .i64 0)), (some (32, true)), 0, false⟩,
 ⟨(some 35), .pick (.tmp 32) (.tmp 34) (.const (.bool false)), none, 0, false⟩,
 ⟨(some 36), .move (.tmp 35), none, 0, false⟩,
 ⟨(some 37), .move (.tmp 8), (some (36, true)), 0, false⟩,
 ⟨(some 38), .bin .eql (.tmp 37) (.const (.int .i64 0)), (some (36, true)), 0, false⟩,
 ⟨(some 39), .pick (.tmp 36) (.tmp 38) (.const (.bool false)), none, 0, false⟩,
 ⟨(some 40), .move (.tmp 39), none, 0, false⟩,
 ⟨(some 41), .move (.tmp 3), (some (40, true)), 0, false⟩,
 ⟨(some 42), .len false (.tmp 41), (some (40, true)), 0, false⟩,
 ⟨(some 43), .bin .eql (.tmp 42) (.const (.int .i64 2)), (some (40, true)), 0, false⟩,
 ⟨(some 44), .pick (.tmp 40) (.tmp 43) (.const (.bool false)), none, 0, false⟩,
 ⟨(some 45), .move (.tmp 44), none, 0, false⟩,
 ⟨(some 46), .move (.tmp 3), (some (45, true)), 0, false⟩,
 ⟨(some 47), .indexAddr 28 (.tmp 46) (.const (.int .i64 1)), (some (45, true)), 0, false⟩,
 ⟨(some 48), .fieldAddr 7 (.tmp 47), (some (45, true)), 0, false⟩,
 ⟨(some 49), .fieldAddr 0 (.tmp 48), (some (45, true)), 0, false⟩,
 ⟨(some 50), .load1 (.tmp 49), (some (45, true)), 0, false⟩,
 ⟨(some 51), .bin .eql (.tmp 50) (.const (.int .u64 1)), (some (45, true)), 0, false⟩,
 ⟨(some 52), .pick (.tmp 45) (.tmp 51) (.const (.bool false)), none, 0, false⟩,
 ⟨(some 53), .move (.tmp 52), none, 0, false⟩,
 ⟨(some 54), .move (.tmp 7), (some (53, true)), 0, false⟩,
 ⟨(some 55), .len false (.tmp 54), (some (53, true)), 0, false⟩,
 ⟨(some 56), .bin .eql (.tmp 55) (.const (.int .i64 2)), (some (53, true)), 0, false⟩,
 ⟨(some 57), .pick (.tmp 53) (.tmp 56) (.const (.bool false)), none, 0, false⟩,
 ⟨(some 58), .move (.tmp 57), none, 0, false⟩,
 ⟨(some 59), .move (.tmp 5), (some (58, true)), 0, false⟩,
 ⟨(some 60), .conv .bytesStr (.tmp 59), (some (58, true)), 0, false⟩,
 ⟨(some 61), .bin .eql (.tmp 60) (.const (.string ⟨⟨[128, 1, 2, 9, 2, 1, 3, 8, 2]⟩⟩)), (some (58, true)), 0, false⟩,
 ⟨(some 62), .pick (.tmp 58) (.tmp 61) (.const (.bool false)), none, 0, false⟩,
 ⟨(some 0), .move (.tmp 62), none, 0, false⟩])
 .ret)))))))⟩

def L12 : LFunc := ⟨52, [.tmp 4],
 (.seq (.region [⟨(some 2), .box 19 37 (.tmp 0), none, 0, false⟩,
 ⟨(some 3), .box 19 37 (.tmp 1), none, 0, false⟩,
 ⟨(some 4), .move (.const (.bool false)), none, 0, false⟩])
 (.seq (.region [⟨(some 5), .fieldAddr 0 (.tmp 2), none, 0, false⟩,
 ⟨(some 6), .load1 (.tmp 5), none, 0, false⟩,
 ⟨(some 7), .fieldAddr 0 (.tmp 3), none, 0, false⟩,
 ⟨(some 8), .load1 (.tmp 7), none, 0, false⟩,
 ⟨(some 9), .bin .eql (.tmp 6) (.tmp 8), none, 0, false⟩,
 ⟨(some 10), .move (.tmp 9), none, 0, false⟩,
 ⟨(some 11), .fieldAddr 1 (.tmp 2), (some (10, true)), 0, false⟩,
 ⟨(some 12), .load1 (.tmp 11), (some (10, true)), 0, false⟩,
 ⟨(some 13), .fieldAddr 1 (.tmp 3), (some (10, true)), 0, false⟩,
 ⟨(some 14), .load1 (.tmp 13), (some (10, true)), 0, false⟩,
 ⟨(some 15), .bin .eql (.tmp 12) (.tmp 14), (some (10, true)), 0, false⟩,
 ⟨(some 16), .pick (.tmp 10) (.tmp 15) (.const (.bool false)), none, 0, false⟩,
 ⟨(some 17), .move (.tmp 16), none, 0, false⟩,
 ⟨(some 18), .fieldAddr 2 (.tmp 2), (some (17, true)), 0, false⟩,
 ⟨(some 19), .load1 (.tmp 18), (some (17, true)), 0, false⟩,
 ⟨(some 20), .fieldAddr 2 (.tmp 3), (some (17, true)), 0, false⟩,
 ⟨(some 21), .load1 (.tmp 20), (some (17, true)), 0, false⟩,
 ⟨(some 22), .bin .eql (.tmp 19) (.tmp 21), (some (17, true)), 0, false⟩,
 ⟨(some 23), .pick (.tmp 17) (.tmp 22) (.const (.bool false)), none, 0, false⟩,
 ⟨(some 24), .move (.tmp 23), none, 0, false⟩,
 ⟨(some 25), .fieldAddr 3 (.tmp 2), (some (24, true)), 0, false⟩,
 ⟨(some 26), .load1 (.tmp 25), (some (24, true)), 0, false⟩,
 ⟨(some 27), .fieldAddr 3 (.tmp 3), (some (24, true)), 0, false⟩,
 ⟨(some 28), .load1 (.tmp 27), (some (24, true)), 0, false⟩,
 ⟨(some 29), .bin .eql (.tmp 26) (.tmp 28), (some (24, true)), 0, false⟩,
 ⟨(some 30), .pick (.tmp 24) (.tmp 29) (.const (.bool false)), none, 0, false⟩,
 ⟨(some 31), .move (.tmp 30), none, 0, false⟩,
 ⟨(some 32), .fieldAddr 5 (.tmp 2), (some (31, true)), 0, false⟩,
 ⟨(some 33), .loadN 13 (.tmp 32), (some (31, true)), 0, false⟩,
 ⟨(some 34), .fieldAddr 5 (.tmp 3), (some (31, true)), 0, false⟩,
 ⟨(some 35), .loadN 13 (.tmp 34), (some (31, true)), 0, false⟩,
 ⟨(some 36), .eq false (.agg [(0, .n), (1, .n), (2, .n), (3, .n), (4, .n), (5, .n), (6, .n), (7, .n), (8, .n), (9, .n), (10, .n), (11, .n), (12, .n)]) (.tmp 33) (.tmp 35), (some (31, true)), 0, false⟩,
 ⟨(some 37), .pick (.tmp 31) (.tmp 36) (.const (.bool false)), none, 0, false⟩,
 ⟨(some 38), .move (.tmp 37), none, 0, false⟩,
 ⟨(some 39), .fieldAddr 4 (.tmp 2), (some (38, true)), 0, false⟩,
 ⟨(some 40), .load1 (.tmp 39), (some (38, true)), 0, false⟩,
 ⟨(some 41), .fieldAddr 4 (.tmp 3), (some (38, true)), 0, false⟩,
 ⟨(some 42), .load1 (.tmp 41), (some (38, true)), 0, false⟩,
 ⟨(some 43), .call (.func 26) [(.tmp 40), (.tmp 42)], (some (38, true)), 0, false⟩,
 ⟨(some 44), .pick (.tmp 38) (.tmp 43) (.const (.bool false)), none, 0, false⟩,
 ⟨(some 45), .move (.tmp 44), none, 0, false⟩,
 ⟨(some 46), .fieldAddr 18 (.tmp 2), (some (45, true)), 0, false⟩,
 ⟨(some 47), .load1 (.tmp 46), (some (45, true)), 0, false⟩,
 ⟨(some 48), .fieldAddr 18 (.tmp 3), (some (45, true)), 0, false⟩,
 ⟨(some 49), .load1 (.tmp 48), (some (45, true)), 0, false⟩,
 ⟨(some 50), .call (.func 27) [(.tmp 47), (.tmp 49)], (some (45, true)), 0, false⟩,
 ⟨(some 51), .pick (.tmp 45) (.tmp 50) (.const (.bool false)), none, 0, false⟩,
 ⟨(some 4), .move (.tmp 51), none, 0, false⟩])
 .ret))⟩

def L15 : LFunc := ⟨65, [.tmp 2],
 (.seq (.region [⟨(some 1), .box 19 37 (.tmp 0), none, 0, false⟩,
 ⟨(some 2), .move (.const (.bool false)), none, 0, false⟩])
 (.seq (.region [⟨(some 4), .fieldAddr 0 (.tmp 1), none, 0, false⟩,
 ⟨(some 5), .load1 (.tmp 4), none, 0, false⟩,
 ⟨(some 6), .build [(.int .i64 0), (.int .i64 0), (.int .i64 0), (.int .u64 0), (.slice none 0 0), (.int .i64 0), (.int .u8 0), (.int .u8 0), (.int .u8 0), (.int .u8 0), (.int .i64 0), (.int .u64 0), (.int .u64 0), (.int .u64 0), (.int .u64 0), (.int .u64 0), (.int .u64 0), (.int .u64 0), (.slice none 0 0)] [(0, 1, (.tmp 5))], none, 0, false⟩,
 ⟨(some 3), .alloc [(.int .i64 0), (.int .i64 0), (.int .i64 0), (.int .u64 0), (.slice none 0 0), (.int .i64 0), (.int .u8 0), (.int .u8 0), (.int .u8 0), (.int .u8 0), (.int .i64 0), (.int .u64 0), (.int .u64 0), (.int .u64 0), (.int .u64 0), (.int .u64 0), (.int .u64 0), (.int .u64 0), (.slice none 0 0)] 37, none, 0, false⟩,
 ⟨none, .store 19 (.tmp 3) (.tmp 6), none, 0, false⟩])
 (.seq (.seq (.region [⟨(some 7), .fieldAddr 0 (.tmp 1), none, 0, false⟩,
 ⟨(some 8), .load1 (.tmp 7), none, 0, false⟩])
 (.block 0 (.seq (.region [⟨(some 10), .bin .eql (.tmp 8) (.const (.int .i64 0)), none, 0, false⟩,
 ⟨(some 9), .move (.tmp 10), none, 0, false⟩])
 (.cond (.tmp 9) (.region [⟨(some 11), .fieldAddr 4 (.tmp 1), none, 0, false⟩,
 ⟨(some 12), .load1 (.tmp 11), none, 0, false⟩,
 ⟨(some 13), .fieldAddr 4 (.tmp 3), none, 0, false⟩,
 ⟨none, .store 1 (.tmp 13) (.tmp 12), none, 0, false⟩])
 (.seq (.region [⟨(some 15), .bin .eql (.tmp 8) (.const (.int .i64 1)), none, 0, false⟩,
 ⟨(some 14), .move (.tmp 15), none, 0, false⟩])
 (.cond (.tmp 14) (.region [⟨(some 16), .fieldAddr 3 (.tmp 1), none, 0, false⟩,
 ⟨(some 17), .load1 (.tmp 16), none, 0, false⟩,
 ⟨(some 18), .fieldAddr 3 (.tmp 3), none, 0, false⟩,
 ⟨none, .store 1 (.tmp 18) (.tmp 17), none, 0, false⟩])
 (.seq (.region [⟨(some 20), .bin .eql (.tmp 8) (.const (.int .i64 4)), none, 0, false⟩,
 ⟨(some 19), .move (.tmp 20), none, 0, false⟩])
 (.cond (.tmp 19) (.region [⟨(some 21), .fieldAddr 5 (.tmp 1), none, 0, false⟩,
 ⟨(some 22), .loadN 13 (.tmp 21), none, 0, false⟩,
 ⟨(some 23), .fieldAddr 5 (.tmp 3), none, 0, false⟩,
 ⟨none, .store 13 (.tmp 23) (.tmp 22), none, 0, false⟩])
 (.seq (.seq (.region [⟨(some 25), .bin .eql (.tmp 8) (.const (.int .i64 5)), none, 0, false⟩,
 ⟨(some 24), .move (.tmp 25), none, 0, false⟩])
 (.cond (.tmp 24) .skip
 (.region [⟨(some 26), .bin .eql (.tmp 8) (.const (.int .i64 8)), none, 0, false⟩,
 ⟨(some 24), .move (.tmp 26), none, 0, false⟩])))
 (.cond (.tmp 24) (.region [⟨(some 27), .fieldAddr 1 (.tmp 1), none, 0, false⟩,
 ⟨(some 28), .load1 (.tmp 27), none, 0, false⟩,
 ⟨(some 29), .fieldAddr 1 (.tmp 3), none, 0, false⟩,
 ⟨none, .store 1 (.tmp 29) (.tmp 28), none, 0, false⟩])
 (.seq (.region [⟨(some 31), .bin .eql (.tmp 8) (.const (.int .i64 10)), none, 0, false⟩,
 ⟨(some 30), .move (.tmp 31), none, 0, false⟩])
 (.cond (.tmp 30) (.region [⟨(some 32), .fieldAddr 2 (.tmp 1), none, 0, false⟩,
 ⟨(some 33), .load1 (.tmp 32), none, 0, false⟩,
 ⟨(some 34), .fieldAddr 2 (.tmp 3), none, 0, false⟩,
 ⟨none, .store 1 (.tmp 34) (.tmp 33), none, 0, false⟩])
 (.seq (.region [⟨(some 36), .bin .eql (.tmp 8) (.const (.int .i64 11)), none, 0, false⟩,
 ⟨(some 35), .move (.tmp 36), none, 0, false⟩])
 (.cond (.tmp 35) (.region [⟨(some 37), .fieldAddr 18 (.tmp 1), none, 0, false⟩,
 ⟨(some 38), .load1 (.tmp 37), none, 0, false⟩,
 ⟨(some 39), .fieldAddr 18 (.tmp 3), none, 0, false⟩,
 ⟨none, .store 1 (.tmp 39) (.tmp 38), none, 0, false⟩])
 .skip))))))))))))))
 (.seq (.region [⟨(some 40), .fieldAddr 0 (.tmp 1), none, 0, false⟩,
 ⟨(some 41), .load1 (.tmp 40), none, 0, false⟩,
 ⟨(some 42), .bin .geq (.tmp 41) (.const (.int .i64 0)), none, 0, false⟩,
 ⟨(some 43), .move (.tmp 42), none, 0, false⟩,
 ⟨(some 44), .fieldAddr 0 (.tmp 1), (some (43, true)), 0, false⟩,
 ⟨(some 45), .load1 (.tmp 44), (some (43, true)), 0, false⟩,
 ⟨(some 46), .bin .leq (.tmp 45) (.const (.int .i64 12)), (some (43, true)), 0, false⟩,
 ⟨(some 47), .pick (.tmp 43) (.tmp 46) (.const (.bool false)), none, 0, false⟩,
 ⟨(some 48), .move (.tmp 47), none, 0, false⟩,
 ⟨(some 49), .fieldAddr 4 (.tmp 1), (some (48, true)), 0, false⟩,
 ⟨(some 50), .load1 (.tmp 49), (some (48, true)), 0, false⟩,
 ⟨(some 51), .len false (.tmp 50), (some (48, true)), 0, false⟩,
 ⟨(some 52), .bin .leq (.tmp 51) (.const (.int .i64 2000)), (some (48, true)), 0, false⟩,
 ⟨(some 53), .pick (.tmp 48) (.tmp 52) (.const (.bool false)), none, 0, false⟩,
 ⟨(some 54), .move (.tmp 53), none, 0, false⟩,
 ⟨(some 55), .fieldAddr 18 (.tmp 1), (some (54, true)), 0, false⟩,
 ⟨(some 56), .load1 (.tmp 55), (some (54, true)), 0, false⟩,
 ⟨(some 57), .len false (.tmp 56), (some (54, true)), 0, false⟩,
 ⟨(some 58), .bin .leq (.tmp 57) (.const (.int .i64 64)), (some (54, true)), 0, false⟩,
 ⟨(some 59), .pick (.tmp 54) (.tmp 58) (.const (.bool false)), none, 0, false⟩,
 ⟨(some 60), .move (.tmp 59), none, 0, false⟩,
 ⟨(some 61), .loadN 19 (.tmp 1), (some (60, true)), 0, false⟩,
 ⟨(some 62), .loadN 19 (.tmp 3), (some (60, true)), 0, false⟩,
 ⟨(some 63), .call (.func 12) [(.tmp 61), (.tmp 62)], (some (60, true)), 0, false⟩,
 ⟨(some 64), .pick (.tmp 60) (.tmp 63) (.const (.bool false)), none, 0, false⟩,
 ⟨(some 2), .move (.tmp 64), none, 0, false⟩])
 .ret))))⟩

def L17 : LFunc := ⟨53, [.cellN 2 3, .tmp 3, .tmp 4],
 (.seq (.region [⟨(some 2), .alloc [(.int .i64 0), (.int .i64 0), (.int .u64 0)] 28, none, 0, false⟩,
 ⟨(some 3), .move (.const (.slice none 0 0)), none, 0, false⟩,
 ⟨(some 4), .move (.const (.int .i64 0)), none, 0, false⟩])
 (.seq (.region [⟨(some 10), .move (.tmp 0), none, 0, false⟩,
 ⟨(some 11), .build [(.slice none 0 0), (.bool false)] [(0, 1, (.tmp 10))], none, 0, false⟩,
 ⟨(some 12), .box 2 77 (.tmp 11), none, 0, false⟩,
 ⟨(some 5), .move (.tmp 12), none, 0, false⟩])
 (.seq (.region [⟨(some 13), .move (.tmp 5), none, 0, false⟩,
 ⟨(some 14), .call (.func 32) [(.tmp 13)], none, 0, false⟩,
 ⟨(some 15), .move (.tmp 5), none, 0, false⟩,
 ⟨(some 16), .call (.func 32) [(.tmp 15)], none, 0, false⟩,
 ⟨(some 17), .move (.tmp 5), none, 0, false⟩,
 ⟨(some 18), .call (.func 33) [(.tmp 17)], none, 0, false⟩,
 ⟨(some 19), .build [(.int .i64 0), (.int .i64 0), (.int .u64 0)] [(0, 1, (.tmp 14)), (1, 1, (.tmp 16)), (2, 1, (.tmp 18))], none, 0, false⟩,
 ⟨(some 6), .alloc [(.int .i64 0), (.int .i64 0), (.int .u64 0)] 28, none, 0, false⟩,
 ⟨none, .store 3 (.tmp 6) (.tmp 19), none, 0, false⟩])
 (.seq (.region [⟨(some 7), .move (.const (.slice none 0 0)), none, 0, false⟩])
 (.seq (.seq (.region [⟨(some 20), .move (.tmp 5), none, 0, false⟩,
 ⟨(some 21), .call (.func 34) [(.tmp 20), (.const (.int .i64 400))], none, 0, false⟩,
 ⟨(some 22), .move (.const (.int .i64 0)), none, 0, false⟩])
 (.block 0 (.loop (.seq (.region [⟨(some 23), .bin .lss (.tmp 22) (.tmp 21), none, 0, false⟩])
 (.seq (.cond (.tmp 23) .skip
 (.exit 0))
 (.seq (.block 1 (.region [⟨(some 24), .move (.tmp 7), none, 0, false⟩,
 ⟨(some 25), .move (.tmp 5), none, 0, false⟩,
 ⟨(some 26), .call (.func 35) [(.tmp 25)], none, 0, false⟩,
 ⟨(some 27), .buildSlice 1 19 37 [(.int .i64 0), (.int .i64 0), (.int .i64 0), (.int .u64 0), (.slice none 0 0), (.int .i64 0), (.int .u8 0), (.int .u8 0), (.int .u8 0), (.int .u8 0), (.int .i64 0), (.int .u64 0), (.int .u64 0), (.int .u64 0), (.int .u64 0), (.int .u64 0), (.int .u64 0), (.int .u64 0), (.slice none 0 0)] [(0, 19, (.tmp 26))], none, 0, false⟩,
 ⟨(some 28), .append 19 160 37 [(.int .i64 0), (.int .i64 0), (.int .i64 0), (.int .u64 0), (.slice none 0 0), (.int .i64 0), (.int .u8 0), (.int .u8 0), (.int .u8 0), (.int .u8 0), (.int .i64 0), (.int .u64 0), (.int .u64 0), (.int .u64 0), (.int .u64 0), (.int .u64 0), (.int .u64 0), (.int .u64 0), (.slice none 0 0)] false (.tmp 24) (.tmp 27), none, 0, false⟩,
 ⟨(some 7), .move (.tmp 28), none, 0, false⟩]))
 (.region [⟨(some 29), .bin .add (.tmp 22) (.const (.int .i64 1)), none, 0, false⟩,
 ⟨(some 22), .move (.tmp 29), none, 0, false⟩])))))))
 (.seq (.region [⟨(some 31), .loadN 3 (.tmp 6), none, 0, false⟩,
 ⟨(some 32), .move (.tmp 7), none, 0, false⟩,
 ⟨(some 33), .call (.func 7) [(.tmp 31), (.tmp 32)], none, 0, false⟩,
 ⟨(some 30), .move (.tmp 33), none, 0, false⟩,
 ⟨(some 34), .extract (.tmp 30) 0, none, 0, false⟩,
 ⟨(some 35), .extract (.tmp 30) 1, none, 0, false⟩,
 ⟨(some 8), .move (.tmp 34), none, 0, false⟩,
 ⟨(some 9), .move (.tmp 35), none, 0, false⟩])
 (.seq (.seq (.region [⟨(some 36), .move (.tmp 5), none, 0, false⟩,
 ⟨(some 37), .nilCheck (.tmp 36), none, 0, false⟩,
 ⟨(some 38), .fieldAddr 1 (.tmp 37), none, 0, false⟩,
 ⟨(some 39), .load1 (.tmp 38), none, 0, false⟩,
 ⟨(some 40), .move (.tmp 39), none, 0, false⟩,
 ⟨(some 41), .move (.tmp 9), (some (40, false)), 0, false⟩,
 ⟨(some 42), .bin .neq (.tmp 41) (.const (.int .i64 0)), (some (40, false)), 0, false⟩,
 ⟨(some 43), .pick (.tmp 40) (.const (.bool true)) (.tmp 42), none, 0, false⟩,
 ⟨(some 44), .move (.tmp 43), none, 0, false⟩,
 ⟨(some 45), .move (.tmp 8), (some (44, false)), 0, false⟩,
 ⟨(some 46), .move (.tmp 0), (some (44, false)), 0, false⟩,
 ⟨(some 47), .call (.func 26) [(.tmp 45), (.tmp 46)], (some (44, false)), 0, false⟩,
 ⟨(some 48), .un .not (.tmp 47), (some (44, false)), 0, false⟩,
 ⟨(some 49), .pick (.tmp 44) (.const (.bool true)) (.tmp 48), none, 0, false⟩])
 (.cond (.tmp 49) (.seq (.region [⟨(some 50), .build [(.int .i64 0), (.int .i64 0), (.int .u64 0)] [], none, 0, false⟩,
 ⟨none, .store 3 (.tmp 2) (.tmp 50), none, 0, false⟩,
 ⟨(some 3), .move (.const (.slice none 0 0)), none, 0, false⟩,
 ⟨(some 4), .move (.const (.int .i64 221)), none, 0, false⟩])
 .ret)
 .skip))
 (.seq (.region [⟨(some 51), .loadN 3 (.tmp 6), none, 0, false⟩,
 ⟨(some 52), .move (.tmp 7), none, 0, false⟩,
 ⟨none, .store 3 (.tmp 2) (.tmp 51), none, 0, false⟩,
 ⟨(some 3), .move (.tmp 52), none, 0, false⟩,
 ⟨(some 4), .move (.const (.int .i64 0)), none, 0, false⟩])
 .ret))))))))⟩

def L20 : LFunc := ⟨11, [.tmp 2],
 (.seq (.region [⟨(some 2), .move (.const (.bool false)), none, 0, false⟩])
 (.seq (.region [⟨(some 3), .move (.tmp 0), none, 0, false⟩,
 ⟨(some 4), .len false (.tmp 3), none, 0, false⟩,
 ⟨(some 5), .bin .leq (.tmp 4) (.const (.int .i64 400)), none, 0, false⟩,
 ⟨(some 6), .move (.tmp 5), none, 0, false⟩,
 ⟨(some 7), .move (.tmp 0), (some (6, true)), 0, false⟩,
 ⟨(some 8), .call (.func 39) [(.tmp 7), (.func 40)], (some (6, true)), 0, false⟩,
 ⟨(some 9), .un .not (.tmp 8), (some (6, true)), 0, false⟩,
 ⟨(some 10), .pick (.tmp 6) (.tmp 9) (.const (.bool false)), none, 0, false⟩,
 ⟨(some 2), .move (.tmp 10), none, 0, false⟩])
 .ret))⟩

def L21 : LFunc := ⟨18, [.tmp 2],
 (.seq (.region [⟨(some 2), .move (.const (.slice none 0 0)), none, 0, false⟩])
 (.seq (.region [⟨(some 3), .move (.const (.slice none 0 0)), none, 0, false⟩])
 (.seq (.seq (.region [⟨(some 6), .move (.tmp 0), none, 0, false⟩,
 ⟨(some 7), .len false (.tmp 6), none, 0, false⟩,
 ⟨(some 8), .move (.const (.int .i64 0)), none, 0, false⟩])
 (.block 0 (.loop (.seq (.region [⟨(some 9), .bin .lss (.tmp 8) (.tmp 7), none, 0, false⟩])
 (.seq (.cond (.tmp 9) .skip
 (.exit 0))
 (.seq (.block 1 (.seq (.region [⟨(some 10), .indexAddr 1 (.tmp 6) (.tmp 8), none, 0, false⟩,
 ⟨(some 11), .load1 (.tmp 10), none, 0, false⟩,
 ⟨(some 5), .move (.tmp 11), none, 0, false⟩])
 (.region [⟨(some 12), .move (.tmp 3), none, 0, false⟩,
 ⟨(some 13), .move (.tmp 5), none, 0, false⟩,
 ⟨(some 14), .call (.func 41) [(.tmp 13)], none, 0, false⟩,
 ⟨(some 15), .append 1 1 5 [(.int .u8 0)] false (.tmp 12) (.tmp 14), none, 0, false⟩,
 ⟨(some 3), .move (.tmp 15), none, 0, false⟩])))
 (.region [⟨(some 16), .bin .add (.tmp 8) (.const (.int .i64 1)), none, 0, false⟩,
 ⟨(some 8), .move (.tmp 16), none, 0, false⟩])))))))
 (.seq (.region [⟨(some 17), .move (.tmp 3), none, 0, false⟩,
 ⟨(some 2), .move (.tmp 17), none, 0, false⟩])
 .ret))))⟩

def L22 : LFunc := ⟨10, [.tmp 2],
 (.seq (.region [⟨(some 2), .move (.const (.int .u64 0)), none, 0, false⟩])
 (.seq (.region [⟨(some 3), .move (.tmp 0), none, 0, false⟩,
 ⟨(some 4), .conv (.int .u64) (.tmp 3), none, 0, false⟩,
 ⟨(some 5), .bin .shl (.tmp 4) (.const (.int .u64 1)), none, 0, false⟩,
 ⟨(some 6), .move (.tmp 0), none, 0, false⟩,
 ⟨(some 7), .bin .shr (.tmp 6) (.const (.int .u64 63)), none, 0, false⟩,
 ⟨(some 8), .conv (.int .u64) (.tmp 7), none, 0, false⟩,
 ⟨(some 9), .bin .xor (.tmp 5) (.tmp 8), none, 0, false⟩,
 ⟨(some 2), .move (.tmp 9), none, 0, false⟩])
 .ret))⟩

def L23 : LFunc := ⟨106, [.tmp 2],
 (.seq (.region [⟨(some 1), .box 19 37 (.tmp 0), none, 0, false⟩,
 ⟨(some 2), .move (.const (.slice none 0 0)), none, 0, false⟩])
 (.seq (.region [⟨(some 7), .fieldAddr 0 (.tmp 1), none, 0, false⟩,
 ⟨(some 8), .load1 (.tmp 7), none, 0, false⟩,
 ⟨(some 9), .conv (.int .u64) (.tmp 8), none, 0, false⟩,
 ⟨(some 10), .call (.func 41) [(.tmp 9)], none, 0, false⟩,
 ⟨(some 3), .move (.tmp 10), none, 0, false⟩])
 (.seq (.seq (.region [⟨(some 11), .fieldAddr 0 (.tmp 1), none, 0, false⟩,
 ⟨(some 12), .load1 (.tmp 11), none, 0, false⟩])
 (.block 0 (.seq (.region [⟨(some 14), .bin .eql (.tmp 12) (.const (.int .i64 0)), none, 0, false⟩,
 ⟨(some 13), .move (.tmp 14), none, 0, false⟩])
 (.cond (.tmp 13) (.seq (.draw [⟨(some 16), .fieldAddr 4 (.tmp 1), none, 0, false⟩,
 ⟨(some 17), .load1 (.tmp 16), none, 0, false⟩,
 ⟨(some 18), .len false (.tmp 17), none, 0, false⟩,
 ⟨(some 19), .conv (.int .u64) (.tmp 18), none, 0, false⟩,
 ⟨(some 20), .call (.func 41) [(.tmp 19)], none, 0, true⟩,
 ⟨(some 15), .move (.tmp 3), none, 0, false⟩,
 ⟨(some 21), .fieldAddr 4 (.tmp 1), none, 0, false⟩,
 ⟨(some 22), .load1 (.tmp 21), none, 0, false⟩,
 ⟨(some 23), .buildSlice 3 1 22 [(.slice none 0 0), (.slice none 0 0), (.slice none 0 0)] [(0, 1, (.tmp 15)), (1, 1, (.tmp 20)), (2, 1, (.tmp 22))], none, 1, false⟩,
 ⟨(some 24), .call (.func 42) [(.tmp 23)], none, 1, true⟩,
 ⟨(some 2), .move (.tmp 24), none, 2, false⟩])
 .ret)
 (.seq (.region [⟨(some 26), .bin .eql (.tmp 12) (.const (.int .i64 1)), none, 0, false⟩,
 ⟨(some 25), .move (.tmp 26), none, 0, false⟩])
 (.cond (.tmp 25) (.seq (.region [⟨(some 27), .move (.tmp 3), none, 0, false⟩,
 ⟨(some 28), .fieldAddr 3 (.tmp 1), none, 0, false⟩,
 ⟨(some 29), .load1 (.tmp 28), none, 0, false⟩,
 ⟨(some 30), .call (.func 41) [(.tmp 29)], none, 0, false⟩,
 ⟨(some 31), .append 1 1 5 [(.int .u8 0)] false (.tmp 27) (.tmp 30), none, 0, false⟩,
 ⟨(some 2), .move (.tmp 31), none, 0, false⟩])
 .ret)
 (.seq (.region [⟨(some 33), .bin .eql (.tmp 12) (.const (.int .i64 4)), none, 0, false⟩,
 ⟨(some 32), .move (.tmp 33), none, 0, false⟩])
 (.cond (.tmp 32) (.seq (.region [⟨(some 34), .fieldAddr 5 (.tmp 1), none, 0, false⟩,
 ⟨(some 35), .loadN 13 (.tmp 34), none, 0, false⟩,
 ⟨(some 4), .alloc [(.int .i64 0), (.int .u8 0), (.int .u8 0), (.int .u8 0), (.int .u8 0), (.int .i64 0), (.int .u64 0), (.int .u64 0), (.int .u64 0), (.int .u64 0), (.int .u64 0), (.int .u64 0), (.int .u64 0)] 34, none, 0, false⟩,
 ⟨none, .store 13 (.tmp 4) (.tmp 35), none, 0, false⟩])
 (.seq (.draw [⟨(some 37), .fieldAddr 0 (.tmp 4), none, 0, false⟩,
 ⟨(some 38), .load1 (.tmp 37), none, 0, false⟩,
 ⟨(some 39), .call (.func 22) [(.tmp 38)], none, 0, true⟩,
 ⟨(some 40), .fieldAddr 1 (.tmp 4), none, 0, false⟩,
 ⟨(some 41), .fieldAddr 0 (.tmp 40), none, 0, false⟩,
 ⟨(some 42), .loadN 4 (.tmp 41), none, 0, false⟩,
 ⟨(some 43), .call (.func 43) [(.tmp 42)], none, 1, true⟩,
 ⟨(some 45), .fieldAddr 1 (.tmp 4), none, 0, false⟩,
 ⟨(some 46), .fieldAddr 4 (.tmp 45), none, 0, false⟩,
 ⟨(some 47), .load1 (.tmp 46), none, 0, false⟩,
 ⟨(some 48), .call (.func 22) [(.tmp 47)], none, 2, true⟩,
 ⟨(some 44), .conv (.int .u64) (.tmp 43), none, 2, false⟩,
 ⟨(some 49), .fieldAddr 6 (.tmp 4), none, 0, false⟩,
 ⟨(some 50), .load1 (.tmp 49), none, 0, false⟩,
 ⟨(some 51), .fieldAddr 7 (.tmp 4), none, 0, false⟩,
 ⟨(some 52), .load1 (.tmp 51), none, 0, false⟩,
 ⟨(some 53), .fieldAddr 8 (.tmp 4), none, 0, false⟩,
 ⟨(some 54), .load1 (.tmp 53), none, 0, false⟩,
 ⟨(some 55), .fieldAddr 9 (.tmp 4), none, 0, false⟩,
 ⟨(some 56), .load1 (.tmp 55), none, 0, false⟩,
 ⟨(some 57), .fieldAddr 10 (.tmp 4), none, 0, false⟩,
 ⟨(some 58), .load1 (.tmp 57), none, 0, false⟩,
 ⟨(some 59), .fieldAddr 11 (.tmp 4), none, 0, false⟩,
 ⟨(some 60), .load1 (.tmp 59), none, 0, false⟩,
 ⟨(some 61), .fieldAddr 12 (.tmp 4), none, 0, false⟩,
 ⟨(some 62), .load1 (.tmp 61), none, 0, false⟩,
 ⟨(some 63), .buildSlice 10 1 26 [(.int .u64 0), (.int .u64 0), (.int .u64 0), (.int .u64 0), (.int .u64 0), (.int .u64 0), (.int .u64 0), (.int .u64 0), (.int .u64 0), (.int .u64 0)] [(0, 1, (.tmp 39)), (1, 1, (.tmp 44)), (2, 1, (.tmp 48)), (3, 1, (.tmp 50)), (4, 1, (.tmp 52)), (5, 1, (.tmp 54)), (6, 1, (.tmp 56)), (7, 1, (.tmp 58)), (8, 1, (.tmp 60)), (9, 1, (.tmp 62))], none, 3, false⟩,
 ⟨(some 64), .call (.func 21) [(.tmp 63)], none, 3, true⟩,
 ⟨(some 36), .move (.tmp 3), none, 0, false⟩,
 ⟨(some 65), .append 1 1 5 [(.int .u8 0)] false (.tmp 36) (.tmp 64), none, 4, true⟩,
 ⟨(some 2), .move (.tmp 65), none, 5, false⟩])
 .ret))
 (.seq (.seq (.region [⟨(some 67), .bin .eql (.tmp 12) (.const (.int .i64 5)), none, 0, false⟩,
 ⟨(some 66), .move (.tmp 67), none, 0, false⟩])
 (.cond (.tmp 66) .skip
 (.region [⟨(some 68), .bin .eql (.tmp 12) (.const (.int .i64 8)), none, 0, false⟩,
 ⟨(some 66), .move (.tmp 68), none, 0, false⟩])))
 (.cond (.tmp 66) (.seq (.region [⟨(some 69), .move (.tmp 3), none, 0, false⟩,
 ⟨(some 70), .fieldAddr 1 (.tmp 1), none, 0, false⟩,
 ⟨(some 71), .load1 (.tmp 70), none, 0, false⟩,
 ⟨(some 72), .call (.func 22) [(.tmp 71)], none, 0, false⟩,
 ⟨(some 73), .call (.func 41) [(.tmp 72)], none, 0, false⟩,
 ⟨(some 74), .append 1 1 5 [(.int .u8 0)] false (.tmp 69) (.tmp 73), none, 0, false⟩,
 ⟨(some 2), .move (.tmp 74), none, 0, false⟩])
 .ret)
 (.seq (.region [⟨(some 76), .bin .eql (.tmp 12) (.const (.int .i64 10)), none, 0, false⟩,
 ⟨(some 75), .move (.tmp 76), none, 0, false⟩])
 (.cond (.tmp 75) (.seq (.region [⟨(some 77), .move (.tmp 3), none, 0, false⟩,
 ⟨(some 78), .fieldAddr 2 (.tmp 1), none, 0, false⟩,
 ⟨(some 79), .load1 (.tmp 78), none, 0, false⟩,
 ⟨(some 80), .call (.func 22) [(.tmp 79)], none, 0, false⟩,
 ⟨(some 81), .call (.func 41) [(.tmp 80)], none, 0, false⟩,
 ⟨(some 82), .append 1 1 5 [(.int .u8 0)] false (.tmp 77) (.tmp 81), none, 0, false⟩,
 ⟨(some 2), .move (.tmp 82), none, 0, false⟩])
 .ret)
 (.seq (.region [⟨(some 84), .bin .eql (.tmp 12) (.const (.int .i64 11)), none, 0, false⟩,
 ⟨(some 83), .move (.tmp 84), none, 0, false⟩])
 (.cond (.tmp 83) (.seq (.region [⟨(some 85), .move (.tmp 3), none, 0, false⟩,
 ⟨(some 86), .fieldAddr 18 (.tmp 1), none, 0, false⟩,
 ⟨(some 87), .load1 (.tmp 86), none, 0, false⟩,
 ⟨(some 88), .len false (.tmp 87), none, 0, false⟩,
 ⟨(some 89), .conv (.int .u64) (.tmp 88), none, 0, false⟩,
 ⟨(some 90), .call (.func 41) [(.tmp 89)], none, 0, false⟩,
 ⟨(some 91), .append 1 1 5 [(.int .u8 0)] false (.tmp 85) (.tmp 90), none, 0, false⟩,
 ⟨(some 3), .move (.tmp 91), none, 0, false⟩])
 (.seq (.region [⟨(some 92), .fieldAddr 18 (.tmp 1), none, 0, false⟩,
 ⟨(some 93), .load1 (.tmp 92), none, 0, false⟩,
 ⟨(some 94), .len false (.tmp 93), none, 0, false⟩,
 ⟨(some 95), .move (.const (.int .i64 0)), none, 0, false⟩])
 (.block 1 (.loop (.seq (.region [⟨(some 96), .bin .lss (.tmp 95) (.tmp 94), none, 0, false⟩])
 (.seq (.cond (.tmp 96) .skip
 (.exit 1))
 (.seq (.block 2 (.seq (.region [⟨(some 97), .indexAddr 1 (.tmp 93) (.tmp 95), none, 0, false⟩,
 ⟨(some 98), .load1 (.tmp 97), none, 0, false⟩,
 ⟨(some 6), .move (.tmp 98), none, 0, false⟩])
 (.region [⟨(some 99), .move (.tmp 3), none, 0, false⟩,
 ⟨(some 100), .move (.tmp 6), none, 0, false⟩,
 ⟨(some 101), .call (.func 44) [(.tmp 100)], none, 0, false⟩,
 ⟨(some 102), .call (.func 41) [(.tmp 101)], none, 0, false⟩,
 ⟨(some 103), .append 1 1 5 [(.int .u8 0)] false (.tmp 99) (.tmp 102), none, 0, false⟩,
 ⟨(some 3), .move (.tmp 103), none, 0, false⟩])))
 (.region [⟨(some 104), .bin .add (.tmp 95) (.const (.int .i64 1)), none, 0, false⟩,
 ⟨(some 95), .move (.tmp 104), none, 0, false⟩]))))))))
 .skip))))))))))))))
 (.seq (.region [⟨(some 105), .move (.tmp 3), none, 0, false⟩,
 ⟨(some 2), .move (.tmp 105), none, 0, false⟩])
 .ret))))⟩

def L24 : LFunc := ⟨13, [.tmp 4, .tmp 5],
 (.seq (.region [⟨(some 2), .box 3 28 (.tmp 0), none, 0, false⟩,
 ⟨(some 4), .move (.const (.pointer none)), none, 0, false⟩,
 ⟨(some 5), .move (.const (.int .i64 0)), none, 0, false⟩])
 (.seq (.seq (.region [⟨(some 6), .move (.tmp 1), none, 0, false⟩,
 ⟨(some 7), .call (.func 20) [(.tmp 6)], none, 0, false⟩,
 ⟨(some 8), .un .not (.tmp 7), none, 0, false⟩])
 (.cond (.tmp 8) (.seq (.region [⟨(some 4), .move (.const (.pointer none)), none, 0, false⟩,
 ⟨(some 5), .move (.const (.int .i64 221)), none, 0, false⟩])
 .ret)
 .skip))
 (.seq (.region [⟨(some 9), .loadN 3 (.tmp 2), none, 0, false⟩,
 ⟨(some 10), .call (.func 45) [(.tmp 9)], none, 0, false⟩,
 ⟨(some 11), .extract (.tmp 10) 0, none, 0, false⟩,
 ⟨(some 12), .extract (.tmp 10) 1, none, 0, false⟩,
 ⟨(some 4), .move (.tmp 11), none, 0, false⟩,
 ⟨(some 5), .move (.tmp 12), none, 0, false⟩])
 .ret)))⟩

def L25 : LFunc := ⟨86, [.cellN 4 28],
 (.seq (.region [⟨(some 3), .box 19 37 (.tmp 1), none, 0, false⟩,
 ⟨(some 4), .alloc [(.int .i64 0), (.int .i64 0), (.bool false), (.int .i64 0), (.int .i64 0), (.bool false), (.slice none 0 0), (.int .u64 0), (.int .i64 0), (.bool false), (.int .i64 0), (.int .u8 0), (.int .u8 0), (.int .u8 0), (.int .u8 0), (.int .i64 0), (.int .u64 0), (.int .u64 0), (.int .u64 0), (.int .u64 0), (.int .u64 0), (.int .u64 0), (.int .u64 0), (.int .u64 0), (.int .u64 0), (.int .i64 0), (.int .u64 0), (.int .u64 0)] 69, none, 0, false⟩])
 (.seq (.region [⟨(some 5), .alloc [(.int .i64 0), (.int .i64 0), (.bool false), (.int .i64 0), (.int .i64 0), (.bool false), (.slice none 0 0), (.int .u64 0), (.int .i64 0), (.bool false), (.int .i64 0), (.int .u8 0), (.int .u8 0), (.int .u8 0), (.int .u8 0), (.int .i64 0), (.int .u64 0), (.int .u64 0), (.int .u64 0), (.int .u64 0), (.int .u64 0), (.int .u64 0), (.int .u64 0), (.int .u64 0), (.int .u64 0), (.int .i64 0), (.int .u64 0), (.int .u64 0)] 69, none, 0, false⟩])
 (.seq (.seq (.region [⟨(some 6), .loadN 19 (.tmp 3), none, 0, false⟩,
 ⟨(some 7), .call (.func 15) [(.tmp 6)], none, 0, false⟩,
 ⟨(some 8), .un .not (.tmp 7), none, 0, false⟩])
 (.cond (.tmp 8) (.seq (.region [⟨(some 9), .loadN 28 (.tmp 5), none, 0, false⟩,
 ⟨none, .store 28 (.tmp 4) (.tmp 9), none, 0, false⟩])
 .ret)
 .skip))
 (.seq (.seq (.region [⟨(some 10), .fieldAddr 0 (.tmp 3), none, 0, false⟩,
 ⟨(some 11), .load1 (.tmp 10), none, 0, false⟩])
 (.block 0 (.seq (.region [⟨(some 18), .bin .eql (.tmp 11) (.const (.int .i64 0)), none, 0, false⟩,
 ⟨(some 17), .move (.tmp 18), none, 0, false⟩])
 (.cond (.tmp 17) (.region [⟨(some 20), .move (.tmp 0), none, 0, false⟩,
 ⟨(some 21), .fieldAddr 4 (.tmp 3), none, 0, false⟩,
 ⟨(some 22), .load1 (.tmp 21), none, 0, false⟩,
 ⟨(some 23), .call (.func 46) [(.tmp 20), (.tmp 22)], none, 0, false⟩,
 ⟨(some 19), .move (.tmp 23), none, 0, false⟩,
 ⟨(some 24), .extract (.tmp 19) 0, none, 0, false⟩,
 ⟨(some 25), .extract (.tmp 19) 1, none, 0, false⟩,
 ⟨(some 26), .fieldAddr 1 (.tmp 5), none, 0, false⟩,
 ⟨none, .store 1 (.tmp 26) (.tmp 24), none, 0, false⟩,
 ⟨(some 27), .fieldAddr 0 (.tmp 5), none, 0, false⟩,
 ⟨none, .store 1 (.tmp 27) (.tmp 25), none, 0, false⟩])
 (.seq (.region [⟨(some 29), .bin .eql (.tmp 11) (.const (.int .i64 1)), none, 0, false⟩,
 ⟨(some 28), .move (.tmp 29), none, 0, false⟩])
 (.cond (.tmp 28) (.region [⟨(some 31), .move (.tmp 0), none, 0, false⟩,
 ⟨(some 32), .fieldAddr 3 (.tmp 3), none, 0, false⟩,
 ⟨(some 33), .load1 (.tmp 32), none, 0, false⟩,
 ⟨(some 34), .call (.func 47) [(.tmp 31), (.tmp 33)], none, 0, false⟩,
 ⟨(some 30), .move (.tmp 34), none, 0, false⟩,
 ⟨(some 35), .extract (.tmp 30) 0, none, 0, false⟩,
 ⟨(some 36), .extract (.tmp 30) 1, none, 0, false⟩,
 ⟨(some 37), .fieldAddr 2 (.tmp 5), none, 0, false⟩,
 ⟨none, .store 1 (.tmp 37) (.tmp 35), none, 0, false⟩,
 ⟨(some 38), .fieldAddr 0 (.tmp 5), none, 0, false⟩,
 ⟨none, .store 1 (.tmp 38) (.tmp 36), none, 0, false⟩])
 (.seq (.region [⟨(some 40), .bin .eql (.tmp 11) (.const (.int .i64 2)), none, 0, false⟩,
 ⟨(some 39), .move (.tmp 40), none, 0, false⟩])
 (.cond (.tmp 39) (.region [⟨(some 42), .move (.tmp 0), none, 0, false⟩,
 ⟨(some 43), .call (.func 48) [(.tmp 42)], none, 0, false⟩,
 ⟨(some 41), .move (.tmp 43), none, 0, false⟩,
 ⟨(some 44), .extract (.tmp 41) 0, none, 0, false⟩,
 ⟨(some 45), .extract (.tmp 41) 1, none, 0, false⟩,
 ⟨(some 46), .fieldAddr 3 (.tmp 5), none, 0, false⟩,
 ⟨none, .store 4 (.tmp 46) (.tmp 44), none, 0, false⟩,
 ⟨(some 47), .fieldAddr 0 (.tmp 5), none, 0, false⟩,
 ⟨none, .store 1 (.tmp 47) (.tmp 45), none, 0, false⟩])
 (.seq (.region [⟨(some 49), .bin .eql (.tmp 11) (.const (.int .i64 4)), none, 0, false⟩,
 ⟨(some 48), .move (.tmp 49), none, 0, false⟩])
 (.cond (.tmp 48) (.region [⟨(some 50), .move (.tmp 0), none, 0, false⟩,
 ⟨(some 51), .fieldAddr 5 (.tmp 3), none, 0, false⟩,
 ⟨(some 52), .loadN 13 (.tmp 51), none, 0, false⟩,
 ⟨(some 53), .call (.func 49) [(.tmp 50), (.tmp 52)], none, 0, false⟩,
 ⟨(some 54), .fieldAddr 0 (.tmp 5), none, 0, false⟩,
 ⟨none, .store 1 (.tmp 54) (.tmp 53), none, 0, false⟩])
 (.seq (.region [⟨(some 56), .bin .eql (.tmp 11) (.const (.int .i64 5)), none, 0, false⟩,
 ⟨(some 55), .move (.tmp 56), none, 0, false⟩])
 (.cond (.tmp 55) (.region [⟨(some 57), .move (.tmp 0), none, 0, false⟩,
 ⟨(some 58), .fieldAddr 1 (.tmp 3), none, 0, false⟩,
 ⟨(some 59), .load1 (.tmp 58), none, 0, false⟩,
 ⟨(some 60), .call (.func 50) [(.tmp 57), (.tmp 59)], none, 0, false⟩,
 ⟨(some 61), .fieldAddr 0 (.tmp 5), none, 0, false⟩,
 ⟨none, .store 1 (.tmp 61) (.tmp 60), none, 0, false⟩])
 (.seq (.region [⟨(some 63), .bin .eql (.tmp 11) (.const (.int .i64 8)), none, 0, false⟩,
 ⟨(some 62), .move (.tmp 63), none, 0, false⟩])
 (.cond (.tmp 62) (.region [⟨(some 65), .move (.tmp 0), none, 0, false⟩,
 ⟨(some 66), .fieldAddr 1 (.tmp 3), none, 0, false⟩,
 ⟨(some 67), .load1 (.tmp 66), none, 0, false⟩,
 ⟨(some 68), .call (.func 51) [(.tmp 65), (.tmp 67)], none, 0, false⟩,
 ⟨(some 64), .move (.tmp 68), none, 0, false⟩,
 ⟨(some 69), .extract (.tmp 64) 0, none, 0, false⟩,
 ⟨(some 70), .extract (.tmp 64) 1, none, 0, false⟩,
 ⟨(some 71), .fieldAddr 7 (.tmp 5), none, 0, false⟩,
 ⟨none, .store 21 (.tmp 71) (.tmp 69), none, 0, false⟩,
 ⟨(some 72), .fieldAddr 0 (.tmp 5), none, 0, false⟩,
 ⟨none, .store 1 (.tmp 72) (.tmp 70), none, 0, false⟩])
 (.seq (.region [⟨(some 74), .bin .eql (.tmp 11) (.const (.int .i64 10)), none, 0, false⟩,
 ⟨(some 73), .move (.tmp 74), none, 0, false⟩])
 (.cond (.tmp 73) (.region [⟨(some 75), .move (.tmp 0), none, 0, false⟩,
 ⟨(some 76), .fieldAddr 2 (.tmp 3), none, 0, false⟩,
 ⟨(some 77), .load1 (.tmp 76), none, 0, false⟩,
 ⟨(some 78), .call (.func 52) [(.tmp 75), (.tmp 77)], none, 0, false⟩])
 (.seq (.region [⟨(some 80), .bin .eql (.tmp 11) (.const (.int .i64 11)), none, 0, false⟩,
 ⟨(some 79), .move (.tmp 80), none, 0, false⟩])
 (.cond (.tmp 79) (.region [⟨(some 81), .move (.tmp 0), none, 0, false⟩,
 ⟨(some 82), .fieldAddr 18 (.tmp 3), none, 0, false⟩,
 ⟨(some 83), .load1 (.tmp 82), none, 0, false⟩,
 ⟨(some 84), .call (.func 53) [(.tmp 81), (.tmp 83)], none, 0, false⟩])
 (.region [⟨(some 12), .move (.tmp 0), none, 0, false⟩,
 ⟨(some 13), .fieldAddr 0 (.tmp 3), none, 0, false⟩,
 ⟨(some 14), .load1 (.tmp 13), none, 0, false⟩,
 ⟨(some 15), .call (.func 54) [(.tmp 12), (.tmp 14)], none, 0, false⟩,
 ⟨(some 16), .fieldAddr 0 (.tmp 5), none, 0, false⟩,
 ⟨none, .store 1 (.tmp 16) (.tmp 15), none, 0, false⟩])))))))))))))))))))
 (.seq (.region [⟨(some 85), .loadN 28 (.tmp 5), none, 0, false⟩,
 ⟨none, .store 28 (.tmp 4) (.tmp 85), none, 0, false⟩])
 .ret)))))⟩

def L26 : LFunc := ⟨26, [.tmp 4],
 (.seq (.region [⟨(some 4), .move (.const (.bool false)), none, 0, false⟩])
 (.seq (.seq (.region [⟨(some 6), .move (.tmp 0), none, 0, false⟩,
 ⟨(some 7), .len false (.tmp 6), none, 0, false⟩,
 ⟨(some 8), .move (.tmp 1), none, 0, false⟩,
 ⟨(some 9), .len false (.tmp 8), none, 0, false⟩,
 ⟨(some 10), .bin .neq (.tmp 7) (.tmp 9), none, 0, false⟩])
 (.cond (.tmp 10) (.seq (.region [⟨(some 4), .move (.const (.bool false)), none, 0, false⟩])
 .ret)
 .skip))
 (.seq (.seq (.region [⟨(some 11), .move (.tmp 0), none, 0, false⟩,
 ⟨(some 12), .len false (.tmp 11), none, 0, false⟩,
 ⟨(some 13), .move (.const (.int .i64 0)), none, 0, false⟩])
 (.block 0 (.loop (.seq (.region [⟨(some 14), .bin .lss (.tmp 13) (.tmp 12), none, 0, false⟩])
 (.seq (.cond (.tmp 14) .skip
 (.exit 0))
 (.seq (.block 1 (.seq (.region [⟨(some 15), .move (.tmp 13), none, 0, false⟩,
 ⟨(some 5), .move (.tmp 15), none, 0, false⟩])
 (.seq (.draw [⟨(some 16), .move (.tmp 0), none, 0, false⟩,
 ⟨(some 17), .move (.tmp 5), none, 0, false⟩,
 ⟨(some 18), .indexAddr 1 (.tmp 16) (.tmp 17), none, 0, false⟩,
 ⟨(some 19), .load1 (.tmp 18), none, 0, false⟩,
 ⟨(some 20), .move (.tmp 1), none, 0, false⟩,
 ⟨(some 21), .move (.tmp 5), none, 0, false⟩,
 ⟨(some 22), .indexAddr 1 (.tmp 20) (.tmp 21), none, 0, false⟩,
 ⟨(some 23), .load1 (.tmp 22), none, 0, false⟩,
 ⟨(some 24), .bin .neq (.tmp 19) (.tmp 23), none, 0, false⟩])
 (.cond (.tmp 24) (.seq (.region [⟨(some 4), .move (.const (.bool false)), none, 0, false⟩])
 .ret)
 .skip))))
 (.region [⟨(some 25), .bin .add (.tmp 13) (.const (.int .i64 1)), none, 0, false⟩,
 ⟨(some 13), .move (.tmp 25), none, 0, false⟩])))))))
 (.seq (.region [⟨(some 4), .move (.const (.bool true)), none, 0, false⟩])
 .ret))))⟩

def L27 : LFunc := ⟨26, [.tmp 4],
 (.seq (.region [⟨(some 4), .move (.const (.bool false)), none, 0, false⟩])
 (.seq (.seq (.region [⟨(some 6), .move (.tmp 0), none, 0, false⟩,
 ⟨(some 7), .len false (.tmp 6), none, 0, false⟩,
 ⟨(some 8), .move (.tmp 1), none, 0, false⟩,
 ⟨(some 9), .len false (.tmp 8), none, 0, false⟩,
 ⟨(some 10), .bin .neq (.tmp 7) (.tmp 9), none, 0, false⟩])
 (.cond (.tmp 10) (.seq (.region [⟨(some 4), .move (.const (.bool false)), none, 0, false⟩])
 .ret)
 .skip))
 (.seq (.seq (.region [⟨(some 11), .move (.tmp 0), none, 0, false⟩,
 ⟨(some 12), .len false (.tmp 11), none, 0, false⟩,
 ⟨(some 13), .move (.const (.int .i64 0)), none, 0, false⟩])
 (.block 0 (.loop (.seq (.region [⟨(some 14), .bin .lss (.tmp 13) (.tmp 12), none, 0, false⟩])
 (.seq (.cond (.tmp 14) .skip
 (.exit 0))
 (.seq (.block 1 (.seq (.region [⟨(some 15), .move (.tmp 13), none, 0, false⟩,
 ⟨(some 5), .move (.tmp 15), none, 0, false⟩])
 (.seq (.draw [⟨(some 16), .move (.tmp 0), none, 0, false⟩,
 ⟨(some 17), .move (.tmp 5), none, 0, false⟩,
 ⟨(some 18), .indexAddr 1 (.tmp 16) (.tmp 17), none, 0, false⟩,
 ⟨(some 19), .load1 (.tmp 18), none, 0, false⟩,
 ⟨(some 20), .move (.tmp 1), none, 0, false⟩,
 ⟨(some 21), .move (.tmp 5), none, 0, false⟩,
 ⟨(some 22), .indexAddr 1 (.tmp 20) (.tmp 21), none, 0, false⟩,
 ⟨(some 23), .load1 (.tmp 22), none, 0, false⟩,
 ⟨(some 24), .eq true .bl (.tmp 19) (.tmp 23), none, 0, false⟩])
 (.cond (.tmp 24) (.seq (.region [⟨(some 4), .move (.const (.bool false)), none, 0, false⟩])
 .ret)
 .skip))))
 (.region [⟨(some 25), .bin .add (.tmp 13) (.const (.int .i64 1)), none, 0, false⟩,
 ⟨(some 13), .move (.tmp 25), none, 0, false⟩])))))))
 (.seq (.region [⟨(some 4), .move (.const (.bool true)), none, 0, false⟩])
 .ret))))⟩

def L32 : LFunc := ⟨6, [.tmp 2],
 (.seq (.region [⟨(some 2), .move (.const (.int .i64 0)), none, 0, false⟩])
 (.seq (.region [⟨(some 3), .move (.tmp 0), none, 0, false⟩,
 ⟨(some 4), .call (.func 33) [(.tmp 3)], none, 0, false⟩,
 ⟨(some 5), .call (.func 58) [(.tmp 4)], none, 0, false⟩,
 ⟨(some 2), .move (.tmp 5), none, 0, false⟩])
 .ret))⟩

def L33 : LFunc := ⟨33, [.tmp 2],
 (.seq (.region [⟨(some 2), .move (.const (.int .u64 0)), none, 0, false⟩])
 (.seq (.region [⟨(some 7), .move (.tmp 0), none, 0, false⟩,
 ⟨(some 8), .nilCheck (.tmp 7), none, 0, false⟩,
 ⟨(some 9), .fieldAddr 0 (.tmp 8), none, 0, false⟩,
 ⟨(some 10), .load1 (.tmp 9), none, 0, false⟩,
 ⟨(some 11), .call (.func 59) [(.tmp 10)], none, 0, false⟩,
 ⟨(some 6), .move (.tmp 11), none, 0, false⟩,
 ⟨(some 12), .extract (.tmp 6) 0, none, 0, false⟩,
 ⟨(some 13), .extract (.tmp 6) 1, none, 0, false⟩,
 ⟨(some 14), .extract (.tmp 6) 2, none, 0, false⟩,
 ⟨(some 3), .move (.tmp 12), none, 0, false⟩,
 ⟨(some 4), .move (.tmp 13), none, 0, false⟩,
 ⟨(some 5), .move (.tmp 14), none, 0, false⟩])
 (.seq (.seq (.region [⟨(some 15), .move (.tmp 5), none, 0, false⟩,
 ⟨(some 16), .bin .neq (.tmp 15) (.const (.int .i64 0)), none, 0, false⟩])
 (.cond (.tmp 16) (.seq (.region [⟨(some 17), .move (.tmp 0), none, 0, false⟩,
 ⟨(some 18), .move (.tmp 0), none, 0, false⟩,
 ⟨(some 19), .nilCheck (.tmp 17), none, 0, false⟩,
 ⟨(some 20), .fieldAddr 1 (.tmp 19), none, 0, false⟩,
 ⟨none, .store 1 (.tmp 20) (.const (.bool true)), none, 0, false⟩,
 ⟨(some 21), .nilCheck (.tmp 18), none, 0, false⟩,
 ⟨(some 22), .fieldAddr 0 (.tmp 21), none, 0, false⟩,
 ⟨none, .store 1 (.tmp 22) (.const (.slice none 0 0)), none, 0, false⟩])
 (.seq (.region [⟨(some 2), .move (.const (.int .u64 0)), none, 0, false⟩])
 .ret))
 .skip))
 (.seq (.region [⟨(some 23), .move (.tmp 0), none, 0, false⟩,
 ⟨(some 24), .move (.tmp 0), none, 0, false⟩,
 ⟨(some 25), .nilCheck (.tmp 24), none, 0, false⟩,
 ⟨(some 26), .fieldAddr 0 (.tmp 25), none, 0, false⟩,
 ⟨(some 27), .load1 (.tmp 26), none, 0, false⟩,
 ⟨(some 28), .move (.tmp 4), none, 0, false⟩,
 ⟨(some 29), .slice 1 (.tmp 27) (some (.tmp 28)) none none, none, 0, false⟩,
 ⟨(some 30), .nilCheck (.tmp 23), none, 0, false⟩,
 ⟨(some 31), .fieldAddr 0 (.tmp 30), none, 0, false⟩,
 ⟨none, .store 1 (.tmp 31) (.tmp 29), none, 0, false⟩])
 (.seq (.region [⟨(some 32), .move (.tmp 3), none, 0, false⟩,
 ⟨(some 2), .move (.tmp 32), none, 0, false⟩])
 .ret)))))⟩

def L34 : LFunc := ⟨24, [.tmp 4],
 (.seq (.region [⟨(some 4), .move (.const (.int .i64 0)), none, 0, false⟩])
 (.seq (.region [⟨(some 8), .move (.tmp 0), none, 0, false⟩,
 ⟨(some 9), .call (.func 33) [(.tmp 8)], none, 0, false⟩,
 ⟨(some 10), .call (.func 60) [(.tmp 9)], none, 0, false⟩,
 ⟨(some 7), .move (.tmp 10), none, 0, false⟩,
 ⟨(some 11), .extract (.tmp 7) 0, none, 0, false⟩,
 ⟨(some 12), .extract (.tmp 7) 1, none, 0, false⟩,
 ⟨(some 5), .move (.tmp 11), none, 0, false⟩,
 ⟨(some 6), .move (.tmp 12), none, 0, false⟩])
 (.seq (.seq (.region [⟨(some 13), .move (.tmp 6), none, 0, false⟩,
 ⟨(some 14), .un .not (.tmp 13), none, 0, false⟩,
 ⟨(some 15), .move (.tmp 14), none, 0, false⟩,
 ⟨(some 16), .move (.tmp 5), (some (15, false)), 0, false⟩,
 ⟨(some 17), .move (.tmp 1), (some (15, false)), 0, false⟩,
 ⟨(some 18), .bin .gtr (.tmp 16) (.tmp 17), (some (15, false)), 0, false⟩,
 ⟨(some 19), .pick (.tmp 15) (.const (.bool true)) (.tmp 18), none, 0, false⟩])
 (.cond (.tmp 19) (.seq (.region [⟨(some 20), .move (.tmp 0), none, 0, false⟩,
 ⟨(some 21), .nilCheck (.tmp 20), none, 0, false⟩,
 ⟨(some 22), .fieldAddr 1 (.tmp 21), none, 0, false⟩,
 ⟨none, .store 1 (.tmp 22) (.const (.bool true)), none, 0, false⟩])
 (.seq (.region [⟨(some 4), .move (.const (.int .i64 0)), none, 0, false⟩])
 .ret))
 .skip))
 (.seq (.region [⟨(some 23), .move (.tmp 5), none, 0, false⟩,
 ⟨(some 4), .move (.tmp 23), none, 0, false⟩])
 .ret))))⟩

def L35 : LFunc := ⟨81, [.cellN 2 19],
 (.seq (.region [⟨(some 2), .alloc [(.int .i64 0), (.int .i64 0), (.int .i64 0), (.int .u64 0), (.slice none 0 0), (.int .i64 0), (.int .u8 0), (.int .u8 0), (.int .u8 0), (.int .u8 0), (.int .i64 0), (.int .u64 0), (.int .u64 0), (.int .u64 0), (.int .u64 0), (.int .u64 0), (.int .u64 0), (.int .u64 0), (.slice none 0 0)] 37, none, 0, false⟩])
 (.seq (.region [⟨(some 5), .move (.tmp 0), none, 0, false⟩,
 ⟨(some 6), .call (.func 34) [(.tmp 5), (.const (.int .i64 12))], none, 0, false⟩,
 ⟨(some 7), .build [(.int .i64 0), (.int .i64 0), (.int .i64 0), (.int .u64 0), (.slice none 0 0), (.int .i64 0), (.int .u8 0), (.int .u8 0), (.int .u8 0), (.int .u8 0), (.int .i64 0), (.int .u64 0), (.int .u64 0), (.int .u64 0), (.int .u64 0), (.int .u64 0), (.int .u64 0), (.int .u64 0), (.slice none 0 0)] [(0, 1, (.tmp 6))], none, 0, false⟩,
 ⟨(some 3), .alloc [(.int .i64 0), (.int .i64 0), (.int .i64 0), (.int .u64 0), (.slice none 0 0), (.int .i64 0), (.int .u8 0), (.int .u8 0), (.int .u8 0), (.int .u8 0), (.int .i64 0), (.int .u64 0), (.int .u64 0), (.int .u64 0), (.int .u64 0), (.int .u64 0), (.int .u64 0), (.int .u64 0), (.slice none 0 0)] 37, none, 0, false⟩,
 ⟨none, .store 19 (.tmp 3) (.tmp 7), none, 0, false⟩])
 (.seq (.seq (.region [⟨(some 8), .fieldAddr 0 (.tmp 3), none, 0, false⟩,
 ⟨(some 9), .load1 (.tmp 8), none, 0, false⟩])
 (.block 0 (.seq (.region [⟨(some 11), .bin .eql (.tmp 9) (.const (.int .i64 0)), none, 0, false⟩,
 ⟨(some 10), .move (.tmp 11), none, 0, false⟩])
 (.cond (.tmp 10) (.seq (.region [⟨(some 12), .move (.tmp 0), none, 0, false⟩,
 ⟨(some 13), .move (.tmp 0), none, 0, false⟩,
 ⟨(some 14), .nilCheck (.tmp 13), none, 0, false⟩,
 ⟨(some 15), .fieldAddr 0 (.tmp 14), none, 0, false⟩,
 ⟨(some 16), .load1 (.tmp 15), none, 0, false⟩,
 ⟨(some 17), .len false (.tmp 16), none, 0, false⟩,
 ⟨(some 18), .min [(.const (.int .i64 2000)), (.tmp 17)], none, 0, false⟩,
 ⟨(some 19), .call (.func 34) [(.tmp 12), (.tmp 18)], none, 0, false⟩,
 ⟨(some 4), .move (.tmp 19), none, 0, false⟩])
 (.seq (.region [⟨(some 20), .move (.tmp 4), none, 0, false⟩,
 ⟨(some 21), .move (.tmp 0), none, 0, false⟩,
 ⟨(some 22), .nilCheck (.tmp 21), none, 0, false⟩,
 ⟨(some 23), .fieldAddr 0 (.tmp 22), none, 0, false⟩,
 ⟨(some 24), .load1 (.tmp 23), none, 0, false⟩,
 ⟨(some 25), .len false (.tmp 24), none, 0, false⟩,
 ⟨(some 26), .min [(.tmp 20), (.tmp 25)], none, 0, false⟩,
 ⟨(some 4), .move (.tmp 26), none, 0, false⟩])
 (.draw [⟨(some 28), .move (.tmp 0), none, 0, false⟩,
 ⟨(some 29), .nilCheck (.tmp 28), none, 0, false⟩,
 ⟨(some 30), .fieldAddr 0 (.tmp 29), none, 0, false⟩,
 ⟨(some 31), .load1 (.tmp 30), none, 0, false⟩,
 ⟨(some 32), .move (.tmp 4), none, 0, false⟩,
 ⟨(some 33), .slice 1 (.tmp 31) none (some (.tmp 32)) none, none, 0, false⟩,
 ⟨(some 34), .call (.func 61) [(.tmp 33)], none, 0, true⟩,
 ⟨(some 41), .fieldAddr 4 (.tmp 3), none, 1, false⟩,
 ⟨none, .store 1 (.tmp 41) (.tmp 34), none, 1, true⟩,
 ⟨(some 27), .move (.tmp 0), none, 0, false⟩,
 ⟨(some 35), .move (.tmp 0), none, 0, false⟩,
 ⟨(some 36), .nilCheck (.tmp 35), none, 0, false⟩,
 ⟨(some 37), .fieldAddr 0 (.tmp 36), none, 0, false⟩,
 ⟨(some 38), .load1 (.tmp 37), none, 0, false⟩,
 ⟨(some 39), .move (.tmp 4), none, 0, false⟩,
 ⟨(some 40), .slice 1 (.tmp 38) (some (.tmp 39)) none none, none, 0, false⟩,
 ⟨(some 42), .nilCheck (.tmp 27), none, 2, false⟩,
 ⟨(some 43), .fieldAddr 0 (.tmp 42), none, 2, false⟩,
 ⟨none, .store 1 (.tmp 43) (.tmp 40), none, 2, true⟩])))
 (.seq (.region [⟨(some 45), .bin .eql (.tmp 9) (.const (.int .i64 1)), none, 0, false⟩,
 ⟨(some 44), .move (.tmp 45), none, 0, false⟩])
 (.cond (.tmp 44) (.region [⟨(some 46), .move (.tmp 0), none, 0, false⟩,
 ⟨(some 47), .call (.func 33) [(.tmp 46)], none, 0, false⟩,
 ⟨(some 48), .fieldAddr 3 (.tmp 3), none, 0, false⟩,
 ⟨none, .store 1 (.tmp 48) (.tmp 47), none, 0, false⟩])
 (.seq (.region [⟨(some 50), .bin .eql (.tmp 9) (.const (.int .i64 4)), none, 0, false⟩,
 ⟨(some 49), .move (.tmp 50), none, 0, false⟩])
 (.cond (.tmp 49) (.region [⟨(some 51), .move (.tmp 0), none, 0, false⟩,
 ⟨(some 52), .call (.func 62) [(.tmp 51)], none, 0, false⟩,
 ⟨(some 53), .fieldAddr 5 (.tmp 3), none, 0, false⟩,
 ⟨none, .store 13 (.tmp 53) (.tmp 52), none, 0, false⟩])
 (.seq (.seq (.region [⟨(some 55), .bin .eql (.tmp 9) (.const (.int .i64 5)), none, 0, false⟩,
 ⟨(some 54), .move (.tmp 55), none, 0, false⟩])
 (.cond (.tmp 54) .skip
 (.region [⟨(some 56), .bin .eql (.tmp 9) (.const (.int .i64 8)), none, 0, false⟩,
 ⟨(some 54), .move (.tmp 56), none, 0, false⟩])))
 (.cond (.tmp 54) (.region [⟨(some 57), .move (.tmp 0), none, 0, false⟩,
 ⟨(some 58), .call (.func 32) [(.tmp 57)], none, 0, false⟩,
 ⟨(some 59), .fieldAddr 1 (.tmp 3), none, 0, false⟩,
 ⟨none, .store 1 (.tmp 59) (.tmp 58), none, 0, false⟩])
 (.seq (.region [⟨(some 61), .bin .eql (.tmp 9) (.const (.int .i64 10)), none, 0, false⟩,
 ⟨(some 60), .move (.tmp 61), none, 0, false⟩])
 (.cond (.tmp 60) (.region [⟨(some 62), .move (.tmp 0), none, 0, false⟩,
 ⟨(some 63), .call (.func 32) [(.tmp 62)], none, 0, false⟩,
 ⟨(some 64), .fieldAddr 2 (.tmp 3), none, 0, false⟩,
 ⟨none, .store 1 (.tmp 64) (.tmp 63), none, 0, false⟩])
 (.seq (.region [⟨(some 66), .bin .eql (.tmp 9) (.const (.int .i64 11)), none, 0, false⟩,
 ⟨(some 65), .move (.tmp 66), none, 0, false⟩])
 (.cond (.tmp 65) (.seq (.region [⟨(some 67), .move (.tmp 0), none, 0, false⟩,
 ⟨(some 68), .call (.func 34) [(.tmp 67), (.const (.int .i64 64))], none, 0, false⟩,
 ⟨(some 69), .move (.const (.int .i64 0)), none, 0, false⟩])
 (.block 1 (.loop (.seq (.region [⟨(some 70), .bin .lss (.tmp 69) (.tmp 68), none, 0, false⟩])
 (.seq (.cond (.tmp 70) .skip
 (.exit 1))
 (.seq (.block 2 (.draw [⟨(some 73), .move (.tmp 0), none, 0, false⟩,
 ⟨(some 74), .call (.func 34) [(.tmp 73), (.const (.int .i64 1))], none, 0, true⟩,
 ⟨(some 71), .fieldAddr 18 (.tmp 3), none, 0, false⟩,
 ⟨(some 72), .load1 (.tmp 71), none, 0, false⟩,
 ⟨(some 75), .bin .eql (.tmp 74) (.const (.int .i64 1)), none, 1, false⟩,
 ⟨(some 76), .buildSlice 1 1 4 [(.bool false)] [(0, 1, (.tmp 75))], none, 1, false⟩,
 ⟨(some 77), .append 1 1 4 [(.bool false)] false (.tmp 72) (.tmp 76), none, 1, true⟩,
 ⟨(some 78), .fieldAddr 18 (.tmp 3), none, 2, false⟩,
 ⟨none, .store 1 (.tmp 78) (.tmp 77), none, 2, true⟩]))
 (.region [⟨(some 79), .bin .add (.tmp 69) (.const (.int .i64 1)), none, 0, false⟩,
 ⟨(some 69), .move (.tmp 79), none, 0, false⟩])))))))
 .skip))))))))))))))
 (.seq (.region [⟨(some 80), .loadN 19 (.tmp 3), none, 0, false⟩,
 ⟨none, .store 19 (.tmp 2) (.tmp 80), none, 0, false⟩])
 .ret))))⟩

def L39 : LFunc := ⟨9, [.tmp 4],
 (.seq (.region [⟨(some 4), .move (.const (.bool false)), none, 0, false⟩])
 (.seq (.region [⟨(some 5), .move (.tmp 0), none, 0, false⟩,
 ⟨(some 6), .move (.tmp 1), none, 0, false⟩,
 ⟨(some 7), .call (.func 65) [(.tmp 5), (.tmp 6)], none, 0, false⟩,
 ⟨(some 8), .bin .geq (.tmp 7) (.const (.int .i64 0)), none, 0, false⟩,
 ⟨(some 4), .move (.tmp 8), none, 0, false⟩])
 .ret))⟩

def L40 : LFunc := ⟨6, [.tmp 2],
 (.seq (.region [⟨(some 1), .box 19 37 (.tmp 0), none, 0, false⟩,
 ⟨(some 2), .move (.const (.bool false)), none, 0, false⟩])
 (.seq (.region [⟨(some 3), .loadN 19 (.tmp 1), none, 0, false⟩,
 ⟨(some 4), .call (.func 15) [(.tmp 3)], none, 0, false⟩,
 ⟨(some 5), .un .not (.tmp 4), none, 0, false⟩,
 ⟨(some 2), .move (.tmp 5), none, 0, false⟩])
 .ret))⟩

def L41 : LFunc := ⟨20, [.tmp 2],
 (.seq (.region [⟨(some 2), .move (.const (.slice none 0 0)), none, 0, false⟩])
 (.seq (.region [⟨(some 4), .mkSlice 1 1 5 [(.int .u8 0)] (.const (.int .i64 0)) (.const (.int .i64 10)), none, 0, false⟩,
 ⟨(some 3), .move (.tmp 4), none, 0, false⟩])
 (.seq (.block 0 (.loop (.seq (.seq (.region [⟨(some 5), .move (.tmp 0), none, 0, false⟩,
 ⟨(some 6), .bin .geq (.tmp 5) (.const (.int .u64 128)), none, 0, false⟩])
 (.cond (.tmp 6) .skip
 (.exit 0)))
 (.block 1 (.seq (.region [⟨(some 7), .move (.tmp 3), none, 0, false⟩,
 ⟨(some 8), .move (.tmp 0), none, 0, false⟩,
 ⟨(some 9), .conv (.int .u8) (.tmp 8), none, 0, false⟩,
 ⟨(some 10), .bin .or (.tmp 9) (.const (.int .u8 128)), none, 0, false⟩,
 ⟨(some 11), .buildSlice 1 1 5 [(.int .u8 0)] [(0, 1, (.tmp 10))], none, 0, false⟩,
 ⟨(some 12), .append 1 1 5 [(.int .u8 0)] false (.tmp 7) (.tmp 11), none, 0, false⟩,
 ⟨(some 3), .move (.tmp 12), none, 0, false⟩])
 (.region [⟨(some 13), .move (.tmp 0), none, 0, false⟩,
 ⟨(some 14), .bin .shr (.tmp 13) (.const (.int .u64 7)), none, 0, false⟩,
 ⟨(some 0), .move (.tmp 14), none, 0, false⟩]))))))
 (.seq (.region [⟨(some 15), .move (.tmp 3), none, 0, false⟩,
 ⟨(some 16), .move (.tmp 0), none, 0, false⟩,
 ⟨(some 17), .conv (.int .u8) (.tmp 16), none, 0, false⟩,
 ⟨(some 18), .buildSlice 1 1 5 [(.int .u8 0)] [(0, 1, (.tmp 17))], none, 0, false⟩,
 ⟨(some 19), .append 1 1 5 [(.int .u8 0)] false (.tmp 15) (.tmp 18), none, 0, false⟩,
 ⟨(some 2), .move (.tmp 19), none, 0, false⟩])
 .ret))))⟩

def L42 : LFunc := ⟨36, [.tmp 2],
 (.seq (.region [⟨(some 2), .move (.const (.slice none 0 0)), none, 0, false⟩])
 (.seq (.region [⟨(some 3), .move (.const (.int .i64 0)), none, 0, false⟩])
 (.seq (.seq (.region [⟨(some 9), .move (.tmp 0), none, 0, false⟩,
 ⟨(some 10), .len false (.tmp 9), none, 0, false⟩,
 ⟨(some 11), .move (.const (.int .i64 0)), none, 0, false⟩])
 (.block 0 (.loop (.seq (.region [⟨(some 12), .bin .lss (.tmp 11) (.tmp 10), none, 0, false⟩])
 (.seq (.cond (.tmp 12) .skip
 (.exit 0))
 (.seq (.block 1 (.seq (.region [⟨(some 13), .indexAddr 1 (.tmp 9) (.tmp 11), none, 0, false⟩,
 ⟨(some 14), .load1 (.tmp 13), none, 0, false⟩,
 ⟨(some 5), .move (.tmp 14), none, 0, false⟩])
 (.seq (.region [⟨(some 15), .move (.tmp 3), none, 0, false⟩,
 ⟨(some 16), .move (.tmp 5), none, 0, false⟩,
 ⟨(some 17), .len false (.tmp 16), none, 0, false⟩,
 ⟨(some 18), .bin .add (.tmp 15) (.tmp 17), none, 0, false⟩,
 ⟨(some 3), .move (.tmp 18), none, 0, false⟩])
 (.seq (.region [⟨(some 19), .move (.tmp 3), none, 0, false⟩,
 ⟨(some 20), .bin .lss (.tmp 19) (.const (.int .i64 0)), none, 0, false⟩])
 (.cond (.tmp 20) (.region [⟨(some 21), .mkIface 9 (.const (.string ⟨⟨[108, 101, 110, 32, 111, 117, 116, 32, 111, 102, 32, 114, 97, 110, 103, 101]⟩⟩)), none, 0, false⟩,
 ⟨none, .bad, none, 0, false⟩])
 .skip)))))
 (.region [⟨(some 22), .bin .add (.tmp 11) (.const (.int .i64 1)), none, 0, false⟩,
 ⟨(some 11), .move (.tmp 22), none, 0, false⟩])))))))
 (.seq (.region [⟨(some 23), .move (.tmp 3), none, 0, false⟩,
 ⟨(some 24), .call (.func 66) [(.const (.slice none 0 0)), (.tmp 23)], none, 0, false⟩,
 ⟨(some 6), .move (.tmp 24), none, 0, false⟩])
 (.seq (.seq (.region [⟨(some 25), .move (.tmp 0), none, 0, false⟩,
 ⟨(some 26), .len false (.tmp 25), none, 0, false⟩,
 ⟨(some 27), .move (.const (.int .i64 0)), none, 0, false⟩])
 (.block 2 (.loop (.seq (.region [⟨(some 28), .bin .lss (.tmp 27) (.tmp 26), none, 0, false⟩])
 (.seq (.cond (.tmp 28) .skip
 (.exit 2))
 (.seq (.block 3 (.seq (.region [⟨(some 29), .indexAddr 1 (.tmp 25) (.tmp 27), none, 0, false⟩,
 ⟨(some 30), .load1 (.tmp 29), none, 0, false⟩,
 ⟨(some 8), .move (.tmp 30), none, 0, false⟩])
 (.region [⟨(some 31), .move (.tmp 6), none, 0, false⟩,
 ⟨(some 32), .move (.tmp 8), none, 0, false⟩,
 ⟨(some 33), .append 1 1 5 [(.int .u8 0)] false (.tmp 31) (.tmp 32), none, 0, false⟩,
 ⟨(some 6), .move (.tmp 33), none, 0, false⟩])))
 (.region [⟨(some 34), .bin .add (.tmp 27) (.const (.int .i64 1)), none, 0, false⟩,
 ⟨(some 27), .move (.tmp 34), none, 0, false⟩])))))))
 (.seq (.region [⟨(some 35), .move (.tmp 6), none, 0, false⟩,
 ⟨(some 2), .move (.tmp 35), none, 0, false⟩])
 .ret))))))⟩

def L43 : LFunc := ⟨17, [.tmp 2],
 (.seq (.region [⟨(some 1), .box 4 30 (.tmp 0), none, 0, false⟩,
 ⟨(some 2), .move (.const (.int .u32 0)), none, 0, false⟩])
 (.seq (.region [⟨(some 3), .move (.const (.int .u32 0)), none, 0, false⟩])
 (.seq (.seq (.region [⟨(some 6), .loadN 4 (.tmp 1), none, 0, false⟩,
 ⟨(some 7), .move (.const (.int .i64 0)), none, 0, false⟩])
 (.block 0 (.loop (.seq (.region [⟨(some 8), .bin .lss (.tmp 7) (.const (.int .i64 4)), none, 0, false⟩])
 (.seq (.cond (.tmp 8) .skip
 (.exit 0))
 (.seq (.block 1 (.seq (.region [⟨(some 9), .indexAgg 4 1 false (.tmp 6) (.tmp 7), none, 0, false⟩,
 ⟨(some 5), .move (.tmp 9), none, 0, false⟩])
 (.region [⟨(some 10), .move (.tmp 3), none, 0, false⟩,
 ⟨(some 11), .bin .shl (.tmp 10) (.const (.int .u64 8)), none, 0, false⟩,
 ⟨(some 12), .move (.tmp 5), none, 0, false⟩,
 ⟨(some 13), .conv (.int .u32) (.tmp 12), none, 0, false⟩,
 ⟨(some 14), .bin .or (.tmp 11) (.tmp 13), none, 0, false⟩,
 ⟨(some 3), .move (.tmp 14), none, 0, false⟩])))
 (.region [⟨(some 15), .bin .add (.tmp 7) (.const (.int .i64 1)), none, 0, false⟩,
 ⟨(some 7), .move (.tmp 15), none, 0, false⟩])))))))
 (.seq (.region [⟨(some 16), .move (.tmp 3), none, 0, false⟩,
 ⟨(some 2), .move (.tmp 16), none, 0, false⟩])
 .ret))))⟩

def L44 : LFunc := ⟨4, [.tmp 2],
 (.seq (.region [⟨(some 2), .move (.const (.int .u64 0)), none, 0, false⟩])
 (.seq (.seq (.region [⟨(some 3), .move (.tmp 0), none, 0, false⟩])
 (.cond (.tmp 3) (.seq (.region [⟨(some 2), .move (.const (.int .u64 1)), none, 0, false⟩])
 .ret)
 .skip))
 (.seq (.region [⟨(some 2), .move (.const (.int .u64 0)), none, 0, false⟩])
 .ret)))⟩

def L45 : LFunc := ⟨31, [.tmp 2, .tmp 3],
 (.seq (.region [⟨(some 1), .box 3 28 (.tmp 0), none, 0, false⟩,
 ⟨(some 2), .move (.const (.pointer none)), none, 0, false⟩,
 ⟨(some 3), .move (.const (.int .i64 0)), none, 0, false⟩])
 (.seq (.seq (.region [⟨(some 7), .loadN 3 (.tmp 1), none, 0, false⟩,
 ⟨(some 8), .call (.func 67) [(.tmp 7)], none, 0, false⟩,
 ⟨(some 9), .un .not (.tmp 8), none, 0, false⟩])
 (.cond (.tmp 9) (.seq (.region [⟨(some 2), .move (.const (.pointer none)), none, 0, false⟩,
 ⟨(some 3), .move (.const (.int .i64 211)), none, 0, false⟩])
 .ret)
 .skip))
 (.seq (.draw [⟨(some 11), .fieldAddr 0 (.tmp 1), none, 0, false⟩,
 ⟨(some 12), .load1 (.tmp 11), none, 0, false⟩,
 ⟨(some 13), .call (.func 68) [(.tmp 12)], none, 0, true⟩,
 ⟨(some 10), .loadN 3 (.tmp 1), none, 0, false⟩,
 ⟨(some 14), .build [(.int .i64 0), (.int .i64 0), (.int .u64 0), (.pointer none), (.pointer none), (.map none), (.pointer none), (.pointer none), (.int .u64 0), (.pointer none)] [(0, 3, (.tmp 10)), (3, 1, (.tmp 13))], none, 1, false⟩,
 ⟨(some 15), .box 10 130 (.tmp 14), none, 1, false⟩,
 ⟨(some 4), .move (.tmp 15), none, 1, false⟩])
 (.seq (.region [⟨(some 17), .move (.tmp 4), none, 0, false⟩,
 ⟨(some 18), .nilCheck (.tmp 17), none, 0, false⟩,
 ⟨(some 19), .fieldAddr 3 (.tmp 18), none, 0, false⟩,
 ⟨(some 20), .load1 (.tmp 19), none, 0, false⟩,
 ⟨(some 21), .call (.func 69) [(.tmp 20)], none, 0, false⟩,
 ⟨(some 16), .move (.tmp 21), none, 0, false⟩,
 ⟨(some 22), .extract (.tmp 16) 0, none, 0, false⟩,
 ⟨(some 23), .extract (.tmp 16) 1, none, 0, false⟩,
 ⟨(some 5), .move (.tmp 22), none, 0, false⟩,
 ⟨(some 6), .move (.tmp 23), none, 0, false⟩])
 (.seq (.seq (.region [⟨(some 24), .move (.tmp 6), none, 0, false⟩,
 ⟨(some 25), .bin .neq (.tmp 24) (.const (.int .i64 0)), none, 0, false⟩])
 (.cond (.tmp 25) (.seq (.region [⟨(some 26), .move (.tmp 6), none, 0, false⟩,
 ⟨(some 2), .move (.const (.pointer none)), none, 0, false⟩,
 ⟨(some 3), .move (.tmp 26), none, 0, false⟩])
 .ret)
 .skip))
 (.seq (.region [⟨(some 27), .move (.tmp 4), none, 0, false⟩,
 ⟨(some 28), .move (.tmp 4), none, 0, false⟩,
 ⟨(some 29), .move (.tmp 5), none, 0, false⟩,
 ⟨(some 30), .call (.func 70) [(.tmp 28), (.tmp 29)], none, 0, false⟩,
 ⟨(some 2), .move (.tmp 27), none, 0, false⟩,
 ⟨(some 3), .move (.tmp 30), none, 0, false⟩])
 .ret))))))⟩

def L46 : LFunc := ⟨65, [.tmp 4, .tmp 5],
 (.seq (.region [⟨(some 4), .move (.const (.int .i64 0)), none, 0, false⟩,
 ⟨(some 5), .move (.const (.int .i64 0)), none, 0, false⟩])
 (.seq (.seq (.region [⟨(some 13), .move (.tmp 0), none, 0, false⟩,
 ⟨(some 14), .call (.func 71) [(.tmp 13)], none, 0, false⟩])
 (.cond (.tmp 14) (.seq (.region [⟨(some 4), .move (.const (.int .i64 0)), none, 0, false⟩,
 ⟨(some 5), .move (.const (.int .i64 216)), none, 0, false⟩])
 .ret)
 .skip))
 (.seq (.region [⟨(some 16), .move (.tmp 1), none, 0, false⟩,
 ⟨(some 17), .call (.func 72) [(.tmp 16)], none, 0, false⟩,
 ⟨(some 15), .move (.tmp 17), none, 0, false⟩,
 ⟨(some 18), .extract (.tmp 15) 0, none, 0, false⟩,
 ⟨(some 19), .extract (.tmp 15) 1, none, 0, false⟩,
 ⟨(some 20), .extract (.tmp 15) 2, none, 0, false⟩,
 ⟨(some 6), .alloc [(.int .i64 0), (.int .i64 0), (.int .i64 0), (.int .i64 0), (.int .i64 0), (.int .u8 0), (.int .u8 0), (.int .u8 0), (.int .u8 0), (.int .u8 0), (.int .u8 0), (.int .u8 0), (.int .u8 0), (.slice none 0 0)] 135, none, 0, false⟩,
 ⟨none, .store 14 (.tmp 6) (.tmp 18), none, 0, false⟩,
 ⟨(some 7), .move (.tmp 19), none, 0, false⟩,
 ⟨(some 8), .move (.tmp 20), none, 0, false⟩])
 (.seq (.seq (.region [⟨(some 21), .move (.tmp 8), none, 0, false⟩,
 ⟨(some 22), .bin .neq (.tmp 21) (.const (.int .i64 0)), none, 0, false⟩])
 (.cond (.tmp 22) (.seq (.region [⟨(some 23), .move (.tmp 8), none, 0, false⟩,
 ⟨(some 4), .move (.const (.int .i64 0)), none, 0, false⟩,
 ⟨(some 5), .move (.tmp 23), none, 0, false⟩])
 .ret)
 .skip))
 (.seq (.draw [⟨(some 25), .move (.tmp 0), none, 0, false⟩,
 ⟨(some 26), .nilCheck (.tmp 25), none, 0, false⟩,
 ⟨(some 27), .fieldAddr 7 (.tmp 26), none, 0, false⟩,
 ⟨(some 28), .load1 (.tmp 27), none, 0, false⟩,
 ⟨(some 29), .fieldAddr 9 (.tmp 6), none, 0, false⟩,
 ⟨(some 30), .loadN 4 (.tmp 29), none, 0, false⟩,
 ⟨(some 31), .call (.func 73) [(.tmp 28), (.tmp 30)], none, 0, true⟩,
 ⟨(some 24), .move (.tmp 31), none, 1, false⟩,
 ⟨(some 32), .extract (.tmp 24) 0, none, 1, false⟩,
 ⟨(some 9), .alloc [(.int .u8 0), (.int .u8 0), (.int .u8 0), (.int .u8 0), (.int .i64 0), (.int .i64 0)] 139, none, 0, false⟩,
 ⟨none, .store 6 (.tmp 9) (.tmp 32), none, 1, true⟩,
 ⟨(some 33), .extract (.tmp 24) 1, none, 1, false⟩,
 ⟨(some 10), .move (.tmp 33), none, 2, false⟩])
 (.seq (.draw [⟨(some 34), .move (.tmp 0), none, 0, false⟩,
 ⟨(some 35), .nilCheck (.tmp 34), none, 0, false⟩,
 ⟨(some 36), .fieldAddr 5 (.tmp 35), none, 0, false⟩,
 ⟨(some 37), .load1 (.tmp 36), none, 0, false⟩,
 ⟨(some 38), .fieldAddr 5 (.tmp 9), none, 0, false⟩,
 ⟨(some 39), .load1 (.tmp 38), none, 0, false⟩,
 ⟨(some 40), .lookup (.prim .n) (.pointer none) false (.tmp 37) (.tmp 39), none, 0, false⟩,
 ⟨(some 11), .move (.tmp 40), none, 0, false⟩])
 (.seq (.seq (.region [⟨(some 41), .move (.tmp 10), none, 0, false⟩,
 ⟨(some 42), .un .not (.tmp 41), none, 0, false⟩,
 ⟨(some 43), .move (.tmp 42), none, 0, false⟩,
 ⟨(some 44), .move (.tmp 11), (some (43, false)), 0, false⟩,
 ⟨(some 45), .eq false .ptr (.tmp 44) (.const (.pointer none)), (some (43, false)), 0, false⟩,
 ⟨(some 46), .pick (.tmp 43) (.const (.bool true)) (.tmp 45), none, 0, false⟩])
 (.cond (.tmp 46) (.seq (.region [⟨(some 4), .move (.const (.int .i64 0)), none, 0, false⟩,
 ⟨(some 5), .move (.const (.int .i64 212)), none, 0, false⟩])
 .ret)
 .skip))
 (.seq (.seq (.region [⟨(some 47), .move (.tmp 11), none, 0, false⟩,
 ⟨(some 48), .nilCheck (.tmp 47), none, 0, false⟩,
 ⟨(some 49), .fieldAddr 0 (.tmp 48), none, 0, false⟩,
 ⟨(some 50), .load1 (.tmp 49), none, 0, false⟩,
 ⟨(some 51), .move (.tmp 1), none, 0, false⟩,
 ⟨(some 52), .call (.func 74) [(.tmp 50), (.tmp 51)], none, 0, false⟩,
 ⟨(some 12), .move (.tmp 52), none, 0, false⟩])
 (.seq (.region [⟨(some 53), .move (.tmp 12), none, 0, false⟩,
 ⟨(some 54), .bin .neq (.tmp 53) (.const (.int .i64 0)), none, 0, false⟩])
 (.cond (.tmp 54) (.seq (.region [⟨(some 55), .move (.tmp 12), none, 0, false⟩,
 ⟨(some 4), .move (.const (.int .i64 0)), none, 0, false⟩,
 ⟨(some 5), .move (.tmp 55), none, 0, false⟩])
 .ret)
 .skip)))
 (.seq (.draw [⟨(some 58), .move (.tmp 0), none, 0, false⟩,
 ⟨(some 59), .nilCheck (.tmp 58), none, 0, false⟩,
 ⟨(some 60), .fieldAddr 6 (.tmp 59), none, 0, false⟩,
 ⟨(some 61), .load1 (.tmp 60), none, 0, false⟩,
 ⟨(some 62), .fieldAddr 5 (.tmp 9), none, 0, false⟩,
 ⟨(some 63), .load1 (.tmp 62), none, 0, false⟩,
 ⟨(some 64), .call (.func 75) [(.tmp 61), (.tmp 63)], none, 0, true⟩,
 ⟨(some 56), .fieldAddr 5 (.tmp 9), none, 0, false⟩,
 ⟨(some 57), .load1 (.tmp 56), none, 0, false⟩,
 ⟨(some 4), .move (.tmp 57), none, 1, false⟩,
 ⟨(some 5), .move (.tmp 64), none, 1, false⟩])
 .ret)))))))))⟩

def L47 : LFunc := ⟨92, [.tmp 4, .tmp 5],
 (.seq (.region [⟨(some 4), .move (.const (.bool false)), none, 0, false⟩,
 ⟨(some 5), .move (.const (.int .i64 0)), none, 0, false⟩])
 (.seq (.seq (.region [⟨(some 11), .move (.tmp 0), none, 0, false⟩,
 ⟨(some 12), .call (.func 71) [(.tmp 11)], none, 0, false⟩])
 (.cond (.tmp 12) (.seq (.region [⟨(some 4), .move (.const (.bool false)), none, 0, false⟩,
 ⟨(some 5), .move (.const (.int .i64 216)), none, 0, false⟩])
 .ret)
 .skip))
 (.seq (.seq (.region [⟨(some 13), .move (.tmp 0), none, 0, false⟩,
 ⟨(some 14), .nilCheck (.tmp 13), none, 0, false⟩,
 ⟨(some 15), .fieldAddr 5 (.tmp 14), none, 0, false⟩,
 ⟨(some 16), .load1 (.tmp 15), none, 0, false⟩,
 ⟨(some 17), .rangeMap (.tmp 16), none, 0, false⟩])
 (.block 0 (.loop (.seq (.region [⟨(some 18), .nextMap (.tmp 17), none, 0, false⟩,
 ⟨(some 19), .extract (.tmp 18) 0, none, 0, false⟩])
 (.seq (.cond (.tmp 19) .skip
 (.exit 0))
 (.block 1 (.seq (.region [⟨(some 20), .entryMap (.tmp 17), none, 0, false⟩,
 ⟨(some 21), .extract (.tmp 20) 1, none, 0, false⟩,
 ⟨(some 7), .move (.tmp 21), none, 0, false⟩])
 (.seq (.region [⟨(some 22), .move (.tmp 7), none, 0, false⟩,
 ⟨(some 23), .nilCheck (.tmp 22), none, 0, false⟩,
 ⟨(some 24), .fieldAddr 14 (.tmp 23), none, 0, false⟩,
 ⟨(some 25), .load1 (.tmp 24), none, 0, false⟩,
 ⟨(some 26), .move (.tmp 1), none, 0, false⟩,
 ⟨(some 27), .call (.func 76) [(.tmp 25), (.tmp 26)], none, 0, false⟩])
 (.region [⟨(some 28), .move (.tmp 7), none, 0, false⟩,
 ⟨(some 29), .nilCheck (.tmp 28), none, 0, false⟩,
 ⟨(some 30), .fieldAddr 15 (.tmp 29), none, 0, false⟩,
 ⟨(some 31), .load1 (.tmp 30), none, 0, false⟩,
 ⟨(some 32), .move (.tmp 1), none, 0, false⟩,
 ⟨(some 33), .call (.func 76) [(.tmp 31), (.tmp 32)], none, 0, false⟩])))))))))
 (.seq (.region [⟨(some 34), .move (.tmp 0), none, 0, false⟩,
 ⟨(some 35), .move (.tmp 0), none, 0, false⟩,
 ⟨(some 36), .nilCheck (.tmp 35), none, 0, false⟩,
 ⟨(some 37), .fieldAddr 8 (.tmp 36), none, 0, false⟩,
 ⟨(some 38), .load1 (.tmp 37), none, 0, false⟩,
 ⟨(some 39), .move (.tmp 1), none, 0, false⟩,
 ⟨(some 40), .call (.func 77) [(.tmp 38), (.tmp 39)], none, 0, false⟩,
 ⟨(some 41), .nilCheck (.tmp 34), none, 0, false⟩,
 ⟨(some 42), .fieldAddr 8 (.tmp 41), none, 0, false⟩,
 ⟨none, .store 1 (.tmp 42) (.tmp 40), none, 0, false⟩])
 (.seq (.seq (.draw [⟨(some 43), .move (.tmp 0), none, 0, false⟩,
 ⟨(some 44), .nilCheck (.tmp 43), none, 0, false⟩,
 ⟨(some 45), .fieldAddr 8 (.tmp 44), none, 0, false⟩,
 ⟨(some 46), .load1 (.tmp 45), none, 0, false⟩,
 ⟨(some 47), .move (.tmp 0), none, 0, false⟩,
 ⟨(some 48), .nilCheck (.tmp 47), none, 0, false⟩,
 ⟨(some 49), .fieldAddr 0 (.tmp 48), none, 0, false⟩,
 ⟨(some 50), .fieldAddr 2 (.tmp 49), none, 0, false⟩,
 ⟨(some 51), .load1 (.tmp 50), none, 0, false⟩,
 ⟨(some 52), .bin .lss (.tmp 46) (.tmp 51), none, 0, false⟩])
 (.cond (.tmp 52) (.seq (.region [⟨(some 4), .move (.const (.bool false)), none, 0, false⟩,
 ⟨(some 5), .move (.const (.int .i64 0)), none, 0, false⟩])
 .ret)
 .skip))
 (.seq (.seq (.draw [⟨(some 57), .move (.tmp 0), none, 0, false⟩,
 ⟨(some 58), .nilCheck (.tmp 57), none, 0, false⟩,
 ⟨(some 59), .fieldAddr 4 (.tmp 58), none, 0, false⟩,
 ⟨(some 60), .load1 (.tmp 59), none, 0, false⟩,
 ⟨(some 61), .call (.func 79) [(.tmp 60)], none, 0, true⟩,
 ⟨(some 53), .move (.tmp 0), none, 0, false⟩,
 ⟨(some 54), .nilCheck (.tmp 53), none, 0, false⟩,
 ⟨(some 55), .fieldAddr 4 (.tmp 54), none, 0, false⟩,
 ⟨(some 56), .load1 (.tmp 55), none, 0, false⟩,
 ⟨(some 62), .field1 0 (.tmp 61), none, 1, false⟩,
 ⟨(some 63), .bin .add (.tmp 62) (.const (.int .u64 1)), none, 1, false⟩,
 ⟨(some 64), .build [(.int .i64 0), (.int .i64 0), (.slice none 0 0), (.slice none 0 0), (.int .u64 0), (.int .u64 0)] [(0, 1, (.const (.int .i64 3))), (5, 1, (.tmp 63))], none, 1, false⟩,
 ⟨(some 65), .call (.func 78) [(.tmp 56), (.tmp 64)], none, 1, true⟩,
 ⟨(some 8), .move (.tmp 65), none, 2, false⟩])
 (.seq (.region [⟨(some 66), .move (.tmp 8), none, 0, false⟩])
 (.block 2 (.seq (.region [⟨(some 71), .bin .eql (.tmp 66) (.const (.int .i64 0)), none, 0, false⟩,
 ⟨(some 70), .move (.tmp 71), none, 0, false⟩])
 (.cond (.tmp 70) .skip
 (.seq (.seq (.region [⟨(some 73), .bin .eql (.tmp 66) (.const (.int .i64 101)), none, 0, false⟩,
 ⟨(some 72), .move (.tmp 73), none, 0, false⟩])
 (.cond (.tmp 72) .skip
 (.region [⟨(some 74), .bin .eql (.tmp 66) (.const (.int .i64 131)), none, 0, false⟩,
 ⟨(some 72), .move (.tmp 74), none, 0, false⟩])))
 (.cond (.tmp 72) (.seq (.region [⟨(some 4), .move (.const (.bool false)), none, 0, false⟩,
 ⟨(some 5), .move (.const (.int .i64 0)), none, 0, false⟩])
 .ret)
 (.seq (.region [⟨(some 67), .move (.tmp 0), none, 0, false⟩,
 ⟨(some 68), .move (.tmp 8), none, 0, false⟩,
 ⟨(some 69), .call (.func 80) [(.tmp 67), (.tmp 68)], none, 0, false⟩,
 ⟨(some 4), .move (.const (.bool false)), none, 0, false⟩,
 ⟨(some 5), .move (.tmp 69), none, 0, false⟩])
 .ret))))))))
 (.seq (.seq (.region [⟨(some 75), .move (.tmp 0), none, 0, false⟩,
 ⟨(some 76), .nilCheck (.tmp 75), none, 0, false⟩,
 ⟨(some 77), .fieldAddr 5 (.tmp 76), none, 0, false⟩,
 ⟨(some 78), .load1 (.tmp 77), none, 0, false⟩,
 ⟨(some 79), .rangeMap (.tmp 78), none, 0, false⟩])
 (.block 3 (.loop (.seq (.region [⟨(some 80), .nextMap (.tmp 79), none, 0, false⟩,
 ⟨(some 81), .extract (.tmp 80) 0, none, 0, false⟩])
 (.seq (.cond (.tmp 81) .skip
 (.exit 3))
 (.block 4 (.seq (.region [⟨(some 82), .entryMap (.tmp 79), none, 0, false⟩,
 ⟨(some 83), .extract (.tmp 82) 1, none, 0, false⟩,
 ⟨(some 10), .move (.tmp 83), none, 0, false⟩])
 (.region [⟨(some 84), .move (.tmp 10), none, 0, false⟩,
 ⟨(some 85), .nilCheck (.tmp 84), none, 0, false⟩,
 ⟨(some 86), .fieldAddr 16 (.tmp 85), none, 0, false⟩,
 ⟨(some 87), .load1 (.tmp 86), none, 0, false⟩,
 ⟨(some 88), .call (.func 81) [(.tmp 87)], none, 0, false⟩]))))))))
 (.seq (.region [⟨(some 89), .move (.tmp 0), none, 0, false⟩,
 ⟨(some 90), .nilCheck (.tmp 89), none, 0, false⟩,
 ⟨(some 91), .fieldAddr 8 (.tmp 90), none, 0, false⟩,
 ⟨none, .store 1 (.tmp 91) (.const (.int .u64 0)), none, 0, false⟩])
 (.seq (.region [⟨(some 4), .move (.const (.bool true)), none, 0, false⟩,
 ⟨(some 5), .move (.const (.int .i64 0)), none, 0, false⟩])
 .ret)))))))))⟩

def L48 : LFunc := ⟨79, [.cellN 2 4, .tmp 3],
 (.seq (.region [⟨(some 2), .alloc [(.int .i64 0), (.int .i64 0), (.bool false), (.slice none 0 0)] 65, none, 0, false⟩,
 ⟨(some 3), .move (.const (.int .i64 0)), none, 0, false⟩])
 (.seq (.seq (.region [⟨(some 13), .move (.tmp 0), none, 0, false⟩,
 ⟨(some 14), .call (.func 71) [(.tmp 13)], none, 0, false⟩])
 (.cond (.tmp 14) (.seq (.region [⟨(some 15), .build [(.int .i64 0), (.int .i64 0), (.bool false), (.slice none 0 0)] [], none, 0, false⟩,
 ⟨none, .store 4 (.tmp 2) (.tmp 15), none, 0, false⟩,
 ⟨(some 3), .move (.const (.int .i64 216)), none, 0, false⟩])
 .ret)
 .skip))
 (.seq (.seq (.region [⟨(some 4), .move (.const (.int .i64 0)), none, 0, false⟩])
 (.block 0 (.loop (.seq (.seq (.region [⟨(some 16), .move (.tmp 4), none, 0, false⟩,
 ⟨(some 17), .move (.tmp 0), none, 0, false⟩,
 ⟨(some 18), .nilCheck (.tmp 17), none, 0, false⟩,
 ⟨(some 19), .fieldAddr 6 (.tmp 18), none, 0, false⟩,
 ⟨(some 20), .load1 (.tmp 19), none, 0, false⟩,
 ⟨(some 21), .call (.func 82) [(.tmp 20)], none, 0, false⟩,
 ⟨(some 22), .len false (.tmp 21), none, 0, false⟩,
 ⟨(some 23), .bin .lss (.tmp 16) (.tmp 22), none, 0, false⟩])
 (.cond (.tmp 23) .skip
 (.exit 0)))
 (.block 1 (.seq (.region [⟨(some 25), .move (.tmp 0), none, 0, false⟩,
 ⟨(some 26), .nilCheck (.tmp 25), none, 0, false⟩,
 ⟨(some 27), .fieldAddr 6 (.tmp 26), none, 0, false⟩,
 ⟨(some 28), .load1 (.tmp 27), none, 0, false⟩,
 ⟨(some 29), .call (.func 83) [(.tmp 28)], none, 0, false⟩,
 ⟨(some 24), .move (.tmp 29), none, 0, false⟩,
 ⟨(some 30), .extract (.tmp 24) 0, none, 0, false⟩,
 ⟨(some 31), .extract (.tmp 24) 1, none, 0, false⟩,
 ⟨(some 32), .extract (.tmp 24) 2, none, 0, false⟩,
 ⟨(some 5), .move (.tmp 30), none, 0, false⟩,
 ⟨(some 6), .move (.tmp 31), none, 0, false⟩,
 ⟨(some 7), .move (.tmp 32), none, 0, false⟩])
 (.seq (.region [⟨(some 33), .move (.tmp 0), none, 0, false⟩,
 ⟨(some 34), .nilCheck (.tmp 33), none, 0, false⟩,
 ⟨(some 35), .fieldAddr 5 (.tmp 34), none, 0, false⟩,
 ⟨(some 36), .load1 (.tmp 35), none, 0, false⟩,
 ⟨(some 37), .move (.tmp 5), none, 0, false⟩,
 ⟨(some 38), .lookup (.prim .n) (.pointer none) false (.tmp 36) (.tmp 37), none, 0, false⟩,
 ⟨(some 8), .move (.tmp 38), none, 0, false⟩])
 (.seq (.region [⟨(some 40), .move (.tmp 8), none, 0, false⟩,
 ⟨(some 41), .nilCheck (.tmp 40), none, 0, false⟩,
 ⟨(some 42), .fieldAddr 0 (.tmp 41), none, 0, false⟩,
 ⟨(some 43), .load1 (.tmp 42), none, 0, false⟩,
 ⟨(some 44), .call (.func 84) [(.tmp 43)], none, 0, false⟩,
 ⟨(some 39), .move (.tmp 44), none, 0, false⟩,
 ⟨(some 45), .extract (.tmp 39) 0, none, 0, false⟩,
 ⟨(some 46), .extract (.tmp 39) 1, none, 0, false⟩,
 ⟨(some 9), .move (.tmp 45), none, 0, false⟩,
 ⟨(some 10), .move (.tmp 46), none, 0, false⟩])
 (.seq (.region [⟨(some 47), .move (.tmp 9), none, 0, false⟩,
 ⟨(some 48), .len false (.tmp 47), none, 0, false⟩,
 ⟨(some 49), .conv (.int .u64) (.tmp 48), none, 0, false⟩,
 ⟨(some 11), .move (.tmp 49), none, 0, false⟩])
 (.seq (.seq (.region [⟨(some 50), .move (.tmp 11), none, 0, false⟩,
 ⟨(some 51), .move (.tmp 6), none, 0, false⟩,
 ⟨(some 52), .bin .gtr (.tmp 50) (.tmp 51), none, 0, false⟩])
 (.cond (.tmp 52) (.seq (.region [⟨(some 53), .move (.tmp 0), none, 0, false⟩,
 ⟨(some 54), .nilCheck (.tmp 53), none, 0, false⟩,
 ⟨(some 55), .fieldAddr 6 (.tmp 54), none, 0, false⟩,
 ⟨(some 56), .load1 (.tmp 55), none, 0, false⟩,
 ⟨(some 57), .call (.func 85) [(.tmp 56)], none, 0, false⟩])
 (.exit 1))
 .skip))
 (.seq (.seq (.region [⟨(some 58), .move (.tmp 0), none, 0, false⟩,
 ⟨(some 59), .move (.tmp 8), none, 0, false⟩,
 ⟨(some 60), .move (.tmp 11), none, 0, false⟩,
 ⟨(some 61), .call (.func 86) [(.tmp 58), (.tmp 59), (.tmp 60)], none, 0, false⟩,
 ⟨(some 12), .move (.tmp 61), none, 0, false⟩])
 (.seq (.region [⟨(some 62), .move (.tmp 12), none, 0, false⟩,
 ⟨(some 63), .bin .neq (.tmp 62) (.const (.int .i64 0)), none, 0, false⟩])
 (.cond (.tmp 63) (.seq (.region [⟨(some 64), .move (.tmp 0), none, 0, false⟩,
 ⟨(some 65), .move (.tmp 8), none, 0, false⟩,
 ⟨(some 66), .move (.tmp 11), none, 0, false⟩,
 ⟨(some 67), .move (.tmp 12), none, 0, false⟩,
 ⟨(some 68), .call (.func 87) [(.tmp 64), (.tmp 65), (.tmp 66), (.tmp 67)], none, 0, false⟩,
 ⟨(some 69), .extract (.tmp 68) 0, none, 0, false⟩,
 ⟨(some 70), .extract (.tmp 68) 1, none, 0, false⟩,
 ⟨none, .store 4 (.tmp 2) (.tmp 69), none, 0, false⟩,
 ⟨(some 3), .move (.tmp 70), none, 0, false⟩])
 .ret)
 .skip)))
 (.seq (.region [⟨(some 71), .move (.tmp 0), none, 0, false⟩,
 ⟨(some 72), .nilCheck (.tmp 71), none, 0, false⟩,
 ⟨(some 73), .fieldAddr 6 (.tmp 72), none, 0, false⟩,
 ⟨(some 74), .load1 (.tmp 73), none, 0, false⟩,
 ⟨(some 75), .call (.func 88) [(.tmp 74)], none, 0, false⟩])
 (.region [⟨(some 76), .move (.tmp 4), none, 0, false⟩,
 ⟨(some 77), .bin .add (.tmp 76) (.const (.int .i64 1)), none, 0, false⟩,
 ⟨(some 4), .move (.tmp 77), none, 0, false⟩])))))))))))))
 (.seq (.region [⟨(some 78), .build [(.int .i64 0), (.int .i64 0), (.bool false), (.slice none 0 0)] [], none, 0, false⟩,
 ⟨none, .store 4 (.tmp 2) (.tmp 78), none, 0, false⟩,
 ⟨(some 3), .move (.const (.int .i64 213)), none, 0, false⟩])
 .ret))))⟩

def L49 : LFunc := ⟨17, [.tmp 4],
 (.seq (.region [⟨(some 3), .box 13 34 (.tmp 1), none, 0, false⟩,
 ⟨(some 4), .move (.const (.int .i64 0)), none, 0, false⟩])
 (.seq (.seq (.region [⟨(some 6), .move (.tmp 0), none, 0, false⟩,
 ⟨(some 7), .call (.func 89) [(.tmp 6)], none, 0, false⟩,
 ⟨(some 5), .move (.tmp 7), none, 0, false⟩])
 (.seq (.region [⟨(some 8), .move (.tmp 5), none, 0, false⟩,
 ⟨(some 9), .bin .neq (.tmp 8) (.const (.int .i64 0)), none, 0, false⟩])
 (.cond (.tmp 9) (.seq (.region [⟨(some 10), .move (.tmp 5), none, 0, false⟩,
 ⟨(some 4), .move (.tmp 10), none, 0, false⟩])
 .ret)
 .skip)))
 (.seq (.draw [⟨(some 11), .move (.tmp 0), none, 0, false⟩,
 ⟨(some 12), .nilCheck (.tmp 11), none, 0, false⟩,
 ⟨(some 13), .fieldAddr 9 (.tmp 12), none, 0, false⟩,
 ⟨(some 14), .load1 (.tmp 13), none, 0, false⟩,
 ⟨(some 15), .loadN 13 (.tmp 3), none, 0, false⟩,
 ⟨(some 16), .call (.func 90) [(.tmp 14), (.tmp 15)], none, 0, true⟩,
 ⟨(some 4), .move (.tmp 16), none, 1, false⟩])
 .ret)))⟩

def L50 : LFunc := ⟨17, [.tmp 4],
 (.seq (.region [⟨(some 4), .move (.const (.int .i64 0)), none, 0, false⟩])
 (.seq (.seq (.region [⟨(some 6), .move (.tmp 0), none, 0, false⟩,
 ⟨(some 7), .call (.func 89) [(.tmp 6)], none, 0, false⟩,
 ⟨(some 5), .move (.tmp 7), none, 0, false⟩])
 (.seq (.region [⟨(some 8), .move (.tmp 5), none, 0, false⟩,
 ⟨(some 9), .bin .neq (.tmp 8) (.const (.int .i64 0)), none, 0, false⟩])
 (.cond (.tmp 9) (.seq (.region [⟨(some 10), .move (.tmp 5), none, 0, false⟩,
 ⟨(some 4), .move (.tmp 10), none, 0, false⟩])
 .ret)
 .skip)))
 (.seq (.region [⟨(some 11), .move (.tmp 0), none, 0, false⟩,
 ⟨(some 12), .nilCheck (.tmp 11), none, 0, false⟩,
 ⟨(some 13), .fieldAddr 9 (.tmp 12), none, 0, false⟩,
 ⟨(some 14), .load1 (.tmp 13), none, 0, false⟩,
 ⟨(some 15), .move (.tmp 1), none, 0, false⟩,
 ⟨(some 16), .call (.func 91) [(.tmp 14), (.tmp 15)], none, 0, false⟩,
 ⟨(some 4), .move (.tmp 16), none, 0, false⟩])
 .ret)))⟩

def L51 : LFunc := ⟨71, [.cellN 4 21, .tmp 5],
 (.seq (.region [⟨(some 4), .alloc [(.int .u64 0), (.int .i64 0), (.bool false), (.int .i64 0), (.int .u8 0), (.int .u8 0), (.int .u8 0), (.int .u8 0), (.int .i64 0), (.int .u64 0), (.int .u64 0), (.int .u64 0), (.int .u64 0), (.int .u64 0), (.int .u64 0), (.int .u64 0), (.int .u64 0), (.int .u64 0), (.int .i64 0), (.int .u64 0), (.int .u64 0)] 67, none, 0, false⟩,
 ⟨(some 5), .move (.const (.int .i64 0)), none, 0, false⟩])
 (.seq (.seq (.region [⟨(some 9), .move (.tmp 0), none, 0, false⟩,
 ⟨(some 10), .call (.func 71) [(.tmp 9)], none, 0, false⟩])
 (.cond (.tmp 10) (.seq (.region [⟨(some 11), .build [(.int .u64 0), (.int .i64 0), (.bool false), (.int .i64 0), (.int .u8 0), (.int .u8 0), (.int .u8 0), (.int .u8 0), (.int .i64 0), (.int .u64 0), (.int .u64 0), (.int .u64 0), (.int .u64 0), (.int .u64 0), (.int .u64 0), (.int .u64 0), (.int .u64 0), (.int .u64 0), (.int .i64 0), (.int .u64 0), (.int .u64 0)] [], none, 0, false⟩,
 ⟨none, .store 21 (.tmp 4) (.tmp 11), none, 0, false⟩,
 ⟨(some 5), .move (.const (.int .i64 216)), none, 0, false⟩])
 .ret)
 .skip))
 (.seq (.draw [⟨(some 12), .move (.tmp 0), none, 0, false⟩,
 ⟨(some 13), .nilCheck (.tmp 12), none, 0, false⟩,
 ⟨(some 14), .fieldAddr 4 (.tmp 13), none, 0, false⟩,
 ⟨(some 15), .load1 (.tmp 14), none, 0, false⟩,
 ⟨(some 16), .call (.func 79) [(.tmp 15)], none, 0, true⟩,
 ⟨(some 18), .move (.tmp 0), none, 0, false⟩,
 ⟨(some 19), .nilCheck (.tmp 18), none, 0, false⟩,
 ⟨(some 20), .fieldAddr 4 (.tmp 19), none, 0, false⟩,
 ⟨(some 21), .load1 (.tmp 20), none, 0, false⟩,
 ⟨(some 22), .call (.func 92) [(.tmp 21)], none, 1, true⟩,
 ⟨(some 17), .field1 0 (.tmp 16), none, 1, false⟩,
 ⟨(some 23), .build [(.int .u64 0), (.int .i64 0), (.bool false), (.int .i64 0), (.int .u8 0), (.int .u8 0), (.int .u8 0), (.int .u8 0), (.int .i64 0), (.int .u64 0), (.int .u64 0), (.int .u64 0), (.int .u64 0), (.int .u64 0), (.int .u64 0), (.int .u64 0), (.int .u64 0), (.int .u64 0), (.int .i64 0), (.int .u64 0), (.int .u64 0)] [(0, 1, (.tmp 17)), (1, 1, (.tmp 22))], none, 2, false⟩,
 ⟨(some 6), .alloc [(.int .u64 0), (.int .i64 0), (.bool false), (.int .i64 0), (.int .u8 0), (.int .u8 0), (.int .u8 0), (.int .u8 0), (.int .i64 0), (.int .u64 0), (.int .u64 0), (.int .u64 0), (.int .u64 0), (.int .u64 0), (.int .u64 0), (.int .u64 0), (.int .u64 0), (.int .u64 0), (.int .i64 0), (.int .u64 0), (.int .u64 0)] 67, none, 0, false⟩,
 ⟨none, .store 21 (.tmp 6) (.tmp 23), none, 2, true⟩])
 (.seq (.seq (.region [⟨(some 25), .move (.tmp 0), none, 0, false⟩,
 ⟨(some 26), .nilCheck (.tmp 25), none, 0, false⟩,
 ⟨(some 27), .fieldAddr 5 (.tmp 26), none, 0, false⟩,
 ⟨(some 28), .load1 (.tmp 27), none, 0, false⟩,
 ⟨(some 29), .move (.tmp 1), none, 0, false⟩,
 ⟨(some 30), .lookup (.prim .n) (.pointer none) true (.tmp 28) (.tmp 29), none, 0, false⟩,
 ⟨(some 24), .move (.tmp 30), none, 0, false⟩,
 ⟨(some 31), .extract (.tmp 24) 0, none, 0, false⟩,
 ⟨(some 32), .extract (.tmp 24) 1, none, 0, false⟩,
 ⟨(some 7), .move (.tmp 31), none, 0, false⟩,
 ⟨(some 8), .move (.tmp 32), none, 0, false⟩])
 (.seq (.region [⟨(some 33), .move (.tmp 8), none, 0, false⟩])
 (.cond (.tmp 33) (.seq (.draw [⟨(some 38), .fieldAddr 2 (.tmp 6), none, 0, false⟩,
 ⟨none, .store 1 (.tmp 38) (.const (.bool true)), none, 0, true⟩,
 ⟨(some 34), .move (.tmp 7), none, 0, false⟩,
 ⟨(some 35), .nilCheck (.tmp 34), none, 0, false⟩,
 ⟨(some 36), .fieldAddr 1 (.tmp 35), none, 0, false⟩,
 ⟨(some 37), .loadN 13 (.tmp 36), none, 0, false⟩,
 ⟨(some 39), .fieldAddr 3 (.tmp 6), none, 1, false⟩,
 ⟨none, .store 13 (.tmp 39) (.tmp 37), none, 1, true⟩])
 (.seq (.draw [⟨(some 40), .move (.tmp 7), none, 0, false⟩,
 ⟨(some 41), .nilCheck (.tmp 40), none, 0, false⟩,
 ⟨(some 42), .fieldAddr 16 (.tmp 41), none, 0, false⟩,
 ⟨(some 43), .load1 (.tmp 42), none, 0, false⟩,
 ⟨(some 44), .call (.func 93) [(.tmp 43)], none, 0, true⟩,
 ⟨(some 45), .move (.tmp 7), none, 0, false⟩,
 ⟨(some 46), .nilCheck (.tmp 45), none, 0, false⟩,
 ⟨(some 47), .fieldAddr 16 (.tmp 46), none, 0, false⟩,
 ⟨(some 48), .load1 (.tmp 47), none, 0, false⟩,
 ⟨(some 49), .call (.func 94) [(.tmp 48)], none, 1, true⟩,
 ⟨(some 50), .move (.tmp 7), none, 0, false⟩,
 ⟨(some 51), .nilCheck (.tmp 50), none, 0, false⟩,
 ⟨(some 52), .fieldAddr 0 (.tmp 51), none, 0, false⟩,
 ⟨(some 53), .load1 (.tmp 52), none, 0, false⟩,
 ⟨(some 54), .call (.func 95) [(.tmp 53)], none, 2, true⟩,
 ⟨(some 55), .fieldAddr 16 (.tmp 6), none, 1, false⟩,
 ⟨none, .store 1 (.tmp 55) (.tmp 44), none, 3, true⟩,
 ⟨(some 56), .fieldAddr 17 (.tmp 6), none, 4, false⟩,
 ⟨none, .store 1 (.tmp 56) (.tmp 49), none, 4, true⟩,
 ⟨(some 57), .fieldAddr 18 (.tmp 6), none, 5, false⟩,
 ⟨none, .store 1 (.tmp 57) (.tmp 54), none, 5, true⟩])
 (.draw [⟨(some 58), .move (.tmp 7), none, 0, false⟩,
 ⟨(some 59), .nilCheck (.tmp 58), none, 0, false⟩,
 ⟨(some 60), .fieldAddr 14 (.tmp 59), none, 0, false⟩,
 ⟨(some 61), .load1 (.tmp 60), none, 0, false⟩,
 ⟨(some 62), .call (.func 96) [(.tmp 61)], none, 0, true⟩,
 ⟨(some 63), .move (.tmp 7), none, 0, false⟩,
 ⟨(some 64), .nilCheck (.tmp 63), none, 0, false⟩,
 ⟨(some 65), .fieldAddr 15 (.tmp 64), none, 0, false⟩,
 ⟨(some 66), .load1 (.tmp 65), none, 0, false⟩,
 ⟨(some 67), .call (.func 96) [(.tmp 66)], none, 1, true⟩,
 ⟨(some 68), .fieldAddr 19 (.tmp 6), none, 1, false⟩,
 ⟨none, .store 1 (.tmp 68) (.tmp 62), none, 2, true⟩,
 ⟨(some 69), .fieldAddr 20 (.tmp 6), none, 3, false⟩,
 ⟨none, .store 1 (.tmp 69) (.tmp 67), none, 3, true⟩])))
 .skip)))
 (.seq (.region [⟨(some 70), .loadN 21 (.tmp 6), none, 0, false⟩,
 ⟨none, .store 21 (.tmp 4) (.tmp 70), none, 0, false⟩,
 ⟨(some 5), .move (.const (.int .i64 0)), none, 0, false⟩])
 .ret)))))⟩

def L52 : LFunc := ⟨10, [],
 (.region [⟨(some 4), .move (.tmp 0), none, 0, false⟩,
 ⟨(some 5), .nilCheck (.tmp 4), none, 0, false⟩,
 ⟨(some 6), .fieldAddr 3 (.tmp 5), none, 0, false⟩,
 ⟨(some 7), .load1 (.tmp 6), none, 0, false⟩,
 ⟨(some 8), .move (.tmp 1), none, 0, false⟩,
 ⟨(some 9), .call (.func 97) [(.tmp 7), (.tmp 8)], none, 0, false⟩])⟩

def L53 : LFunc := ⟨13, [],
 (.seq (.region [⟨(some 4), .move (.tmp 0), none, 0, false⟩,
 ⟨(some 5), .nilCheck (.tmp 4), none, 0, false⟩,
 ⟨(some 6), .fieldAddr 4 (.tmp 5), none, 0, false⟩,
 ⟨none, .store 1 (.tmp 6) (.const (.pointer none)), none, 0, false⟩])
 (.region [⟨(some 7), .move (.tmp 0), none, 0, false⟩,
 ⟨(some 8), .nilCheck (.tmp 7), none, 0, false⟩,
 ⟨(some 9), .fieldAddr 3 (.tmp 8), none, 0, false⟩,
 ⟨(some 10), .load1 (.tmp 9), none, 0, false⟩,
 ⟨(some 11), .move (.tmp 1), none, 0, false⟩,
 ⟨(some 12), .call (.func 98) [(.tmp 10), (.tmp 11)], none, 0, false⟩]))⟩

def L54 : LFunc := ⟨18, [.tmp 4],
 (.seq (.region [⟨(some 4), .move (.const (.int .i64 0)), none, 0, false⟩])
 (.seq (.region [⟨(some 5), .move (.func 99), none, 0, false⟩])
 (.seq (.seq (.region [⟨(some 6), .move (.tmp 1), none, 0, false⟩])
 (.block 0 (.seq (.region [⟨(some 8), .bin .eql (.tmp 6) (.const (.int .i64 3)), none, 0, false⟩,
 ⟨(some 7), .move (.tmp 8), none, 0, false⟩])
 (.cond (.tmp 7) (.region [⟨(some 5), .move (.func 100), none, 0, false⟩])
 (.seq (.region [⟨(some 10), .bin .eql (.tmp 6) (.const (.int .i64 6)), none, 0, false⟩,
 ⟨(some 9), .move (.tmp 10), none, 0, false⟩])
 (.cond (.tmp 9) (.region [⟨(some 5), .move (.func 101), none, 0, false⟩])
 (.seq (.region [⟨(some 12), .bin .eql (.tmp 6) (.const (.int .i64 7)), none, 0, false⟩,
 ⟨(some 11), .move (.tmp 12), none, 0, false⟩])
 (.cond (.tmp 11) (.region [⟨(some 5), .move (.func 102), none, 0, false⟩])
 (.seq (.region [⟨(some 14), .bin .eql (.tmp 6) (.const (.int .i64 9)), none, 0, false⟩,
 ⟨(some 13), .move (.tmp 14), none, 0, false⟩])
 (.cond (.tmp 13) (.region [⟨(some 5), .move (.func 103), none, 0, false⟩])
 .skip))))))))))
 (.seq (.region [⟨(some 15), .move (.tmp 5), none, 0, false⟩,
 ⟨(some 16), .move (.tmp 0), none, 0, false⟩,
 ⟨(some 17), .call (.tmp 15) [(.tmp 16)], none, 0, false⟩,
 ⟨(some 4), .move (.tmp 17), none, 0, false⟩])
 .ret))))⟩

def L58 : LFunc := ⟨11, [.tmp 2],
 (.seq (.region [⟨(some 2), .move (.const (.int .i64 0)), none, 0, false⟩])
 (.seq (.region [⟨(some 3), .move (.tmp 0), none, 0, false⟩,
 ⟨(some 4), .bin .shr (.tmp 3) (.const (.int .u64 1)), none, 0, false⟩,
 ⟨(some 5), .conv (.int .i64) (.tmp 4), none, 0, false⟩,
 ⟨(some 6), .move (.tmp 0), none, 0, false⟩,
 ⟨(some 7), .bin .and (.tmp 6) (.const (.int .u64 1)), none, 0, false⟩,
 ⟨(some 8), .conv (.int .i64) (.tmp 7), none, 0, false⟩,
 ⟨(some 9), .un .neg (.tmp 8), none, 0, false⟩,
 ⟨(some 10), .bin .xor (.tmp 5) (.tmp 9), none, 0, false⟩,
 ⟨(some 2), .move (.tmp 10), none, 0, false⟩])
 .ret))⟩

def L59 : LFunc := ⟨50, [.tmp 2, .tmp 3, .tmp 4],
 (.seq (.region [⟨(some 2), .move (.const (.int .u64 0)), none, 0, false⟩,
 ⟨(some 3), .move (.const (.int .i64 0)), none, 0, false⟩,
 ⟨(some 4), .move (.const (.int .i64 0)), none, 0, false⟩])
 (.seq (.region [⟨(some 5), .move (.const (.int .u64 0)), none, 0, false⟩])
 (.seq (.seq (.region [⟨(some 9), .move (.tmp 0), none, 0, false⟩,
 ⟨(some 10), .move (.tmp 0), none, 0, false⟩,
 ⟨(some 11), .len false (.tmp 10), none, 0, false⟩,
 ⟨(some 12), .min [(.tmp 11), (.const (.int .i64 10))], none, 0, false⟩,
 ⟨(some 13), .slice 1 (.tmp 9) none (some (.tmp 12)) none, none, 0, false⟩,
 ⟨(some 14), .len false (.tmp 13), none, 0, false⟩,
 ⟨(some 15), .move (.const (.int .i64 0)), none, 0, false⟩])
 (.block 0 (.loop (.seq (.region [⟨(some 16), .bin .lss (.tmp 15) (.tmp 14), none, 0, false⟩])
 (.seq (.cond (.tmp 16) .skip
 (.exit 0))
 (.seq (.block 1 (.seq (.region [⟨(some 17), .move (.tmp 15), none, 0, false⟩,
 ⟨(some 18), .indexAddr 1 (.tmp 13) (.tmp 15), none, 0, false⟩,
 ⟨(some 19), .load1 (.tmp 18), none, 0, false⟩,
 ⟨(some 6), .move (.tmp 17), none, 0, false⟩,
 ⟨(some 7), .move (.tmp 19), none, 0, false⟩])
 (.seq (.region [⟨(some 20), .move (.tmp 7), none, 0, false⟩,
 ⟨(some 21), .bin .and (.tmp 20) (.const (.int .u8 127)), none, 0, false⟩,
 ⟨(some 22), .conv (.int .u64) (.tmp 21), none, 0, false⟩,
 ⟨(some 8), .move (.tmp 22), none, 0, false⟩])
 (.seq (.seq (.region [⟨(some 23), .move (.tmp 8), none, 0, false⟩,
 ⟨(some 24), .move (.tmp 6), none, 0, false⟩,
 ⟨(some 25), .bin .mul (.const (.int .i64 7)) (.tmp 24), none, 0, false⟩,
 ⟨(some 26), .bin .shl (.tmp 23) (.tmp 25), none, 0, false⟩,
 ⟨(some 27), .move (.tmp 6), none, 0, false⟩,
 ⟨(some 28), .bin .mul (.const (.int .i64 7)) (.tmp 27), none, 0, false⟩,
 ⟨(some 29), .bin .shr (.tmp 26) (.tmp 28), none, 0, false⟩,
 ⟨(some 30), .move (.tmp 8), none, 0, false⟩,
 ⟨(some 31), .bin .neq (.tmp 29) (.tmp 30), none, 0, false⟩])
 (.cond (.tmp 31) (.exit 0)
 .skip))
 (.seq (.region [⟨(some 32), .move (.tmp 5), none, 0, false⟩,
 ⟨(some 33), .move (.tmp 8), none, 0, false⟩,
 ⟨(some 34), .move (.tmp 6), none, 0, false⟩,
 ⟨(some 35), .bin .mul (.const (.int .i64 7)) (.tmp 34), none, 0, false⟩,
 ⟨(some 36), .bin .shl (.tmp 33) (.tmp 35), none, 0, false⟩,
 ⟨(some 37), .bin .or (.tmp 32) (.tmp 36), none, 0, false⟩,
 ⟨(some 5), .move (.tmp 37), none, 0, false⟩])
 (.seq (.seq (.region [⟨(some 38), .move (.tmp 7), none, 0, false⟩,
 ⟨(some 39), .bin .and (.tmp 38) (.const (.int .u8 128)), none, 0, false⟩,
 ⟨(some 40), .bin .neq (.tmp 39) (.const (.int .u8 0)), none, 0, false⟩])
 (.cond (.tmp 40) (.exit 1)
 .skip))
 (.seq (.seq (.region [⟨(some 41), .move (.tmp 5), none, 0, false⟩,
 ⟨(some 42), .call (.func 104) [(.tmp 41)], none, 0, false⟩,
 ⟨(some 43), .move (.tmp 6), none, 0, false⟩,
 ⟨(some 44), .bin .add (.tmp 43) (.const (.int .i64 1)), none, 0, false⟩,
 ⟨(some 45), .bin .neq (.tmp 42) (.tmp 44), none, 0, false⟩])
 (.cond (.tmp 45) (.exit 0)
 .skip))
 (.seq (.region [⟨(some 46), .move (.tmp 5), none, 0, false⟩,
 ⟨(some 47), .move (.tmp 6), none, 0, false⟩,
 ⟨(some 48), .bin .add (.tmp 47) (.const (.int .i64 1)), none, 0, false⟩,
 ⟨(some 2), .move (.tmp 46), none, 0, false⟩,
 ⟨(some 3), .move (.tmp 48), none, 0, false⟩,
 ⟨(some 4), .move (.const (.int .i64 0)), none, 0, false⟩])
 .ret))))))))
 (.region [⟨(some 49), .bin .add (.tmp 15) (.const (.int .i64 1)), none, 0, false⟩,
 ⟨(some 15), .move (.tmp 49), none, 0, false⟩])))))))
 (.seq (.region [⟨(some 2), .move (.const (.int .u64 0)), none, 0, false⟩,
 ⟨(some 3), .move (.const (.int .i64 0)), none, 0, false⟩,
 ⟨(some 4), .move (.const (.int .i64 21)), none, 0, false⟩])
 .ret))))⟩

def L60 : LFunc := ⟨8, [.tmp 2, .tmp 3],
 (.seq (.region [⟨(some 2), .move (.const (.int .i64 0)), none, 0, false⟩,
 ⟨(some 3), .move (.const (.bool false)), none, 0, false⟩])
 (.seq (.seq (.region [⟨(some 4), .move (.tmp 0), none, 0, false⟩,
 ⟨(some 5), .bin .gtr (.tmp 4) (.const (.int .u64 9223372036854775807)), none, 0, false⟩])
 (.cond (.tmp 5) (.seq (.region [⟨(some 2), .move (.const (.int .i64 0)), none, 0, false⟩,
 ⟨(some 3), .move (.const (.bool false)), none, 0, false⟩])
 .ret)
 .skip))
 (.seq (.region [⟨(some 6), .move (.tmp 0), none, 0, false⟩,
 ⟨(some 7), .conv (.int .i64) (.tmp 6), none, 0, false⟩,
 ⟨(some 2), .move (.tmp 7), none, 0, false⟩,
 ⟨(some 3), .move (.const (.bool true)), none, 0, false⟩])
 .ret)))⟩

def L61 : LFunc := ⟨8, [.tmp 2],
 (.seq (.region [⟨(some 2), .move (.const (.slice none 0 0)), none, 0, false⟩])
 (.seq (.seq (.region [⟨(some 3), .move (.tmp 0), none, 0, false⟩,
 ⟨(some 4), .eq false .slc (.tmp 3) (.const (.slice none 0 0)), none, 0, false⟩])
 (.cond (.tmp 4) (.seq (.region [⟨(some 2), .move (.const (.slice none 0 0)), none, 0, false⟩])
 .ret)
 .skip))
 (.seq (.region [⟨(some 5), .buildSlice 0 1 5 [] [], none, 0, false⟩,
 ⟨(some 6), .move (.tmp 0), none, 0, false⟩,
 ⟨(some 7), .append 1 1 5 [(.int .u8 0)] false (.tmp 5) (.tmp 6), none, 0, false⟩,
 ⟨(some 2), .move (.tmp 7), none, 0, false⟩])
 .ret)))⟩

def L62 : LFunc := ⟨43, [.cellN 2 13],
 (.seq (.region [⟨(some 2), .alloc [(.int .i64 0), (.int .u8 0), (.int .u8 0), (.int .u8 0), (.int .u8 0), (.int .i64 0), (.int .u64 0), (.int .u64 0), (.int .u64 0), (.int .u64 0), (.int .u64 0), (.int .u64 0), (.int .u64 0)] 34, none, 0, false⟩])
 (.seq (.region [⟨(some 7), .move (.tmp 0), none, 0, false⟩,
 ⟨(some 8), .call (.func 32) [(.tmp 7)], none, 0, false⟩,
 ⟨(some 9), .build [(.int .i64 0), (.int .u8 0), (.int .u8 0), (.int .u8 0), (.int .u8 0), (.int .i64 0), (.int .u64 0), (.int .u64 0), (.int .u64 0), (.int .u64 0), (.int .u64 0), (.int .u64 0), (.int .u64 0)] [(0, 1, (.tmp 8))], none, 0, false⟩,
 ⟨(some 3), .alloc [(.int .i64 0), (.int .u8 0), (.int .u8 0), (.int .u8 0), (.int .u8 0), (.int .i64 0), (.int .u64 0), (.int .u64 0), (.int .u64 0), (.int .u64 0), (.int .u64 0), (.int .u64 0), (.int .u64 0)] 34, none, 0, false⟩,
 ⟨none, .store 13 (.tmp 3) (.tmp 9), none, 0, false⟩])
 (.seq (.region [⟨(some 10), .move (.tmp 0), none, 0, false⟩,
 ⟨(some 11), .call (.func 33) [(.tmp 10)], none, 0, false⟩,
 ⟨(some 4), .move (.tmp 11), none, 0, false⟩])
 (.seq (.seq (.region [⟨(some 12), .move (.tmp 4), none, 0, false⟩,
 ⟨(some 13), .bin .gtr (.tmp 12) (.const (.int .u64 4294967295)), none, 0, false⟩])
 (.cond (.tmp 13) (.region [⟨(some 14), .move (.tmp 0), none, 0, false⟩,
 ⟨(some 15), .nilCheck (.tmp 14), none, 0, false⟩,
 ⟨(some 16), .fieldAddr 1 (.tmp 15), none, 0, false⟩,
 ⟨none, .store 1 (.tmp 16) (.const (.bool true)), none, 0, false⟩])
 .skip))
 (.seq (.region [⟨(some 17), .move (.tmp 4), none, 0, false⟩,
 ⟨(some 18), .conv (.int .u32) (.tmp 17), none, 0, false⟩,
 ⟨(some 19), .call (.func 105) [(.tmp 18)], none, 0, false⟩,
 ⟨(some 20), .move (.tmp 0), none, 0, false⟩,
 ⟨(some 21), .call (.func 32) [(.tmp 20)], none, 0, false⟩,
 ⟨(some 22), .build [(.int .u8 0), (.int .u8 0), (.int .u8 0), (.int .u8 0), (.int .i64 0)] [(0, 4, (.tmp 19)), (4, 1, (.tmp 21))], none, 0, false⟩,
 ⟨(some 23), .fieldAddr 1 (.tmp 3), none, 0, false⟩,
 ⟨none, .store 5 (.tmp 23) (.tmp 22), none, 0, false⟩])
 (.seq (.seq (.region [⟨(some 24), .fieldAddr 6 (.tmp 3), none, 0, false⟩,
 ⟨(some 25), .fieldAddr 7 (.tmp 3), none, 0, false⟩,
 ⟨(some 26), .fieldAddr 8 (.tmp 3), none, 0, false⟩,
 ⟨(some 27), .fieldAddr 9 (.tmp 3), none, 0, false⟩,
 ⟨(some 28), .fieldAddr 10 (.tmp 3), none, 0, false⟩,
 ⟨(some 29), .fieldAddr 11 (.tmp 3), none, 0, false⟩,
 ⟨(some 30), .fieldAddr 12 (.tmp 3), none, 0, false⟩,
 ⟨(some 31), .buildSlice 7 1 172 [(.pointer none), (.pointer none), (.pointer none), (.pointer none), (.pointer none), (.pointer none), (.pointer none)] [(0, 1, (.tmp 24)), (1, 1, (.tmp 25)), (2, 1, (.tmp 26)), (3, 1, (.tmp 27)), (4, 1, (.tmp 28)), (5, 1, (.tmp 29)), (6, 1, (.tmp 30))], none, 0, false⟩,
 ⟨(some 32), .len false (.tmp 31), none, 0, false⟩,
 ⟨(some 33), .move (.const (.int .i64 0)), none, 0, false⟩])
 (.block 0 (.loop (.seq (.region [⟨(some 34), .bin .lss (.tmp 33) (.tmp 32), none, 0, false⟩])
 (.seq (.cond (.tmp 34) .skip
 (.exit 0))
 (.seq (.block 1 (.seq (.region [⟨(some 35), .indexAddr 1 (.tmp 31) (.tmp 33), none, 0, false⟩,
 ⟨(some 36), .load1 (.tmp 35), none, 0, false⟩,
 ⟨(some 6), .move (.tmp 36), none, 0, false⟩])
 (.region [⟨(some 37), .move (.tmp 6), none, 0, false⟩,
 ⟨(some 38), .move (.tmp 0), none, 0, false⟩,
 ⟨(some 39), .call (.func 33) [(.tmp 38)], none, 0, false⟩,
 ⟨(some 40), .nilCheck (.tmp 37), none, 0, false⟩,
 ⟨none, .store 1 (.tmp 40) (.tmp 39), none, 0, false⟩])))
 (.region [⟨(some 41), .bin .add (.tmp 33) (.const (.int .i64 1)), none, 0, false⟩,
 ⟨(some 33), .move (.tmp 41), none, 0, false⟩])))))))
 (.seq (.region [⟨(some 42), .loadN 13 (.tmp 3), none, 0, false⟩,
 ⟨none, .store 13 (.tmp 2) (.tmp 42), none, 0, false⟩])
 .ret)))))))⟩

def L65 : LFunc := ⟨19, [.tmp 4],
 (.seq (.region [⟨(some 4), .move (.const (.int .i64 0)), none, 0, false⟩])
 (.seq (.seq (.region [⟨(some 6), .move (.tmp 0), none, 0, false⟩,
 ⟨(some 7), .len false (.tmp 6), none, 0, false⟩,
 ⟨(some 8), .move (.const (.int .i64 0)), none, 0, false⟩])
 (.block 0 (.loop (.seq (.region [⟨(some 9), .bin .lss (.tmp 8) (.tmp 7), none, 0, false⟩])
 (.seq (.cond (.tmp 9) .skip
 (.exit 0))
 (.seq (.block 1 (.seq (.region [⟨(some 10), .move (.tmp 8), none, 0, false⟩,
 ⟨(some 5), .move (.tmp 10), none, 0, false⟩])
 (.seq (.region [⟨(some 11), .move (.tmp 1), none, 0, false⟩,
 ⟨(some 12), .move (.tmp 0), none, 0, false⟩,
 ⟨(some 13), .move (.tmp 5), none, 0, false⟩,
 ⟨(some 14), .indexAddr 19 (.tmp 12) (.tmp 13), none, 0, false⟩,
 ⟨(some 15), .loadN 19 (.tmp 14), none, 0, false⟩,
 ⟨(some 16), .call (.tmp 11) [(.tmp 15)], none, 0, false⟩])
 (.cond (.tmp 16) (.seq (.region [⟨(some 17), .move (.tmp 5), none, 0, false⟩,
 ⟨(some 4), .move (.tmp 17), none, 0, false⟩])
 .ret)
 .skip))))
 (.region [⟨(some 18), .bin .add (.tmp 8) (.const (.int .i64 1)), none, 0, false⟩,
 ⟨(some 8), .move (.tmp 18), none, 0, false⟩])))))))
 (.seq (.region [⟨(some 4), .move (.const (.int .i64 (-1))), none, 0, false⟩])
 .ret)))⟩

def L66 : LFunc := ⟨27, [.tmp 4],
 (.seq (.region [⟨(some 4), .move (.const (.slice none 0 0)), none, 0, false⟩])
 (.seq (.seq (.region [⟨(some 5), .move (.tmp 1), none, 0, false⟩,
 ⟨(some 6), .bin .lss (.tmp 5) (.const (.int .i64 0)), none, 0, false⟩])
 (.cond (.tmp 6) (.region [⟨(some 7), .mkIface 9 (.const (.string ⟨⟨[99, 97, 110, 110, 111, 116, 32, 98, 101, 32, 110, 101, 103, 97, 116, 105, 118, 101]⟩⟩)), none, 0, false⟩,
 ⟨none, .bad, none, 0, false⟩])
 .skip))
 (.seq (.seq (.region [⟨(some 8), .move (.tmp 1), none, 0, false⟩,
 ⟨(some 9), .move (.tmp 0), none, 0, false⟩,
 ⟨(some 10), .cap (.tmp 9), none, 0, false⟩,
 ⟨(some 11), .move (.tmp 0), none, 0, false⟩,
 ⟨(some 12), .len false (.tmp 11), none, 0, false⟩,
 ⟨(some 13), .bin .sub (.tmp 10) (.tmp 12), none, 0, false⟩,
 ⟨(some 14), .bin .sub (.tmp 8) (.tmp 13), none, 0, false⟩,
 ⟨(some 1), .move (.tmp 14), none, 0, false⟩])
 (.seq (.region [⟨(some 15), .move (.tmp 1), none, 0, false⟩,
 ⟨(some 16), .bin .gtr (.tmp 15) (.const (.int .i64 0)), none, 0, false⟩])
 (.cond (.tmp 16) (.region [⟨(some 17), .move (.tmp 0), none, 0, false⟩,
 ⟨(some 18), .move (.tmp 0), none, 0, false⟩,
 ⟨(some 19), .cap (.tmp 18), none, 0, false⟩,
 ⟨(some 20), .slice 1 (.tmp 17) none (some (.tmp 19)) none, none, 0, false⟩,
 ⟨(some 21), .move (.tmp 1), none, 0, false⟩,
 ⟨(some 22), .append 1 1 5 [(.int .u8 0)] true (.tmp 20) (.tmp 21), none, 0, false⟩,
 ⟨(some 23), .move (.tmp 0), none, 0, false⟩,
 ⟨(some 24), .len false (.tmp 23), none, 0, false⟩,
 ⟨(some 25), .slice 1 (.tmp 22) none (some (.tmp 24)) none, none, 0, false⟩,
 ⟨(some 0), .move (.tmp 25), none, 0, false⟩])
 .skip)))
 (.seq (.region [⟨(some 26), .move (.tmp 0), none, 0, false⟩,
 ⟨(some 4), .move (.tmp 26), none, 0, false⟩])
 .ret))))⟩

def L67 : LFunc := ⟨33, [.tmp 2],
 (.seq (.region [⟨(some 1), .box 3 28 (.tmp 0), none, 0, false⟩,
 ⟨(some 2), .move (.const (.bool false)), none, 0, false⟩])
 (.seq (.region [⟨(some 6), .fieldAddr 0 (.tmp 1), none, 0, false⟩,
 ⟨(some 7), .load1 (.tmp 6), none, 0, false⟩,
 ⟨(some 8), .call (.func 106) [(.tmp 7)], none, 0, false⟩,
 ⟨(some 5), .move (.tmp 8), none, 0, false⟩,
 ⟨(some 9), .extract (.tmp 5) 0, none, 0, false⟩,
 ⟨(some 10), .extract (.tmp 5) 1, none, 0, false⟩,
 ⟨(some 3), .move (.tmp 9), none, 0, false⟩,
 ⟨(some 4), .move (.tmp 10), none, 0, false⟩])
 (.seq (.region [⟨(some 11), .move (.tmp 4), none, 0, false⟩,
 ⟨(some 12), .bin .eql (.tmp 11) (.const (.int .i64 0)), none, 0, false⟩,
 ⟨(some 13), .move (.tmp 12), none, 0, false⟩,
 ⟨(some 14), .fieldAddr 1 (.tmp 1), (some (13, true)), 0, false⟩,
 ⟨(some 15), .load1 (.tmp 14), (some (13, true)), 0, false⟩,
 ⟨(some 16), .bin .geq (.tmp 15) (.const (.int .i64 1)), (some (13, true)), 0, false⟩,
 ⟨(some 17), .pick (.tmp 13) (.tmp 16) (.const (.bool false)), none, 0, false⟩,
 ⟨(some 18), .move (.tmp 17), none, 0, false⟩,
 ⟨(some 19), .fieldAddr 1 (.tmp 1), (some (18, true)), 0, false⟩,
 ⟨(some 20), .load1 (.tmp 19), (some (18, true)), 0, false⟩,
 ⟨(some 21), .bin .leq (.tmp 20) (.const (.int .i64 64)), (some (18, true)), 0, false⟩,
 ⟨(some 22), .pick (.tmp 18) (.tmp 21) (.const (.bool false)), none, 0, false⟩,
 ⟨(some 23), .move (.tmp 22), none, 0, false⟩,
 ⟨(some 24), .fieldAddr 2 (.tmp 1), (some (23, true)), 0, false⟩,
 ⟨(some 25), .load1 (.tmp 24), (some (23, true)), 0, false⟩,
 ⟨(some 26), .bin .geq (.tmp 25) (.const (.int .u64 1)), (some (23, true)), 0, false⟩,
 ⟨(some 27), .pick (.tmp 23) (.tmp 26) (.const (.bool false)), none, 0, false⟩,
 ⟨(some 28), .move (.tmp 27), none, 0, false⟩,
 ⟨(some 29), .fieldAddr 2 (.tmp 1), (some (28, true)), 0, false⟩,
 ⟨(some 30), .load1 (.tmp 29), (some (28, true)), 0, false⟩,
 ⟨(some 31), .bin .leq (.tmp 30) (.const (.int .u64 281474976710656)), (some (28, true)), 0, false⟩,
 ⟨(some 32), .pick (.tmp 28) (.tmp 31) (.const (.bool false)), none, 0, false⟩,
 ⟨(some 2), .move (.tmp 32), none, 0, false⟩])
 .ret)))⟩

def L68 : LFunc := ⟨9, [.tmp 2],
 (.seq (.region [⟨(some 2), .move (.const (.pointer none)), none, 0, false⟩])
 (.seq (.region [⟨(some 3), .move (.tmp 0), none, 0, false⟩,
 ⟨(some 4), .min [(.tmp 3), (.const (.int .i64 512))], none, 0, false⟩,
 ⟨(some 5), .max [(.const (.int .i64 0)), (.tmp 4)], none, 0, false⟩,
 ⟨(some 6), .mkSlice 64 64 262 [(.int .u8 0), (.int .u8 0), (.int .u8 0), (.int .u8 0), (.int .u8 0), (.int .u8 0), (.int .u8 0), (.int .u8 0), (.int .u8 0), (.int .u8 0), (.int .u8 0), (.int .u8 0), (.int .u8 0), (.int .u8 0), (.int .u8 0), (.int .u8 0), (.int .u8 0), (.int .u8 0), (.int .u8 0), (.int .u8 0), (.int .u8 0), (.int .u8 0), (.int .u8 0), (.int .u8 0), (.int .u8 0), (.int .u8 0), (.int .u8 0), (.int .u8 0), (.int .u8 0), (.int .u8 0), (.int .u8 0), (.int .u8 0), (.int .u8 0), (.int .u8 0), (.int .u8 0), (.int .u8 0), (.int .u8 0), (.int .u8 0), (.int .u8 0), (.int .u8 0), (.int .u8 0), (.int .u8 0), (.int .u8 0), (.int .u8 0), (.int .u8 0), (.int .u8 0), (.int .u8 0), (.int .u8 0), (.int .u8 0), (.int .u8 0), (.int .u8 0), (.int .u8 0), (.int .u8 0), (.int .u8 0), (.int .u8 0), (.int .u8 0), (.int .u8 0), (.int .u8 0), (.int .u8 0), (.int .u8 0), (.int .u8 0), (.int .u8 0), (.int .u8 0), (.int .u8 0)] (.tmp 5) (.tmp 5), none, 0, false⟩,
 ⟨(some 7), .build [(.slice none 0 0), (.slice none 0 0), (.int .i64 0), (.bool false)] [(0, 1, (.tmp 6)), (2, 1, (.const (.int .i64 (-1))))], none, 0, false⟩,
 ⟨(some 8), .box 4 178 (.tmp 7), none, 0, false⟩,
 ⟨(some 2), .move (.tmp 8), none, 0, false⟩])
 .ret))⟩

def L69 : LFunc := ⟨21, [.tmp 2, .tmp 3],
 (.seq (.region [⟨(some 2), .move (.const (.pointer none)), none, 0, false⟩,
 ⟨(some 3), .move (.const (.int .i64 0)), none, 0, false⟩])
 (.seq (.seq (.region [⟨(some 7), .move (.tmp 0), none, 0, false⟩,
 ⟨(some 8), .call (.func 107) [(.tmp 7)], none, 0, false⟩,
 ⟨(some 9), .call (.func 106) [(.tmp 8)], none, 0, false⟩,
 ⟨(some 6), .move (.tmp 9), none, 0, false⟩,
 ⟨(some 10), .extract (.tmp 6) 0, none, 0, false⟩,
 ⟨(some 11), .extract (.tmp 6) 1, none, 0, false⟩,
 ⟨(some 4), .move (.tmp 10), none, 0, false⟩,
 ⟨(some 5), .move (.tmp 11), none, 0, false⟩])
 (.seq (.region [⟨(some 12), .move (.tmp 5), none, 0, false⟩,
 ⟨(some 13), .bin .neq (.tmp 12) (.const (.int .i64 0)), none, 0, false⟩])
 (.cond (.tmp 13) (.seq (.region [⟨(some 14), .move (.tmp 5), none, 0, false⟩,
 ⟨(some 2), .move (.const (.pointer none)), none, 0, false⟩,
 ⟨(some 3), .move (.tmp 14), none, 0, false⟩])
 .ret)
 .skip)))
 (.seq (.region [⟨(some 15), .move (.tmp 0), none, 0, false⟩,
 ⟨(some 16), .build [(.int .u64 0), (.slice none 0 0)] [(0, 1, (.const (.int .u64 1)))], none, 0, false⟩,
 ⟨(some 17), .build [(.int .u64 0), (.int .u32 0), (.int .u64 0), (.int .i64 0), (.int .u64 0), (.slice none 0 0)] [(0, 1, (.const (.int .u64 1))), (1, 1, (.const (.int .u32 1))), (2, 1, (.const (.int .u64 1))), (4, 2, (.tmp 16))], none, 0, false⟩,
 ⟨(some 18), .call (.func 108) [(.tmp 15), (.tmp 17)], none, 0, false⟩,
 ⟨(some 19), .extract (.tmp 18) 0, none, 0, false⟩,
 ⟨(some 20), .extract (.tmp 18) 1, none, 0, false⟩,
 ⟨(some 2), .move (.tmp 19), none, 0, false⟩,
 ⟨(some 3), .move (.tmp 20), none, 0, false⟩])
 .ret)))⟩

def L70 : LFunc := ⟨45, [.tmp 4],
 (.seq (.region [⟨(some 4), .move (.const (.int .i64 0)), none, 0, false⟩])
 (.seq (.region [⟨(some 8), .move (.tmp 0), none, 0, false⟩,
 ⟨(some 9), .move (.tmp 0), none, 0, false⟩,
 ⟨(some 10), .move (.tmp 0), none, 0, false⟩,
 ⟨(some 11), .move (.tmp 1), none, 0, false⟩,
 ⟨(some 12), .nilCheck (.tmp 8), none, 0, false⟩,
 ⟨(some 13), .fieldAddr 4 (.tmp 12), none, 0, false⟩,
 ⟨none, .store 1 (.tmp 13) (.tmp 11), none, 0, false⟩,
 ⟨(some 14), .nilCheck (.tmp 9), none, 0, false⟩,
 ⟨(some 15), .fieldAddr 8 (.tmp 14), none, 0, false⟩,
 ⟨none, .store 1 (.tmp 15) (.const (.int .u64 0)), none, 0, false⟩,
 ⟨(some 16), .nilCheck (.tmp 10), none, 0, false⟩,
 ⟨(some 17), .fieldAddr 9 (.tmp 16), none, 0, false⟩,
 ⟨none, .store 1 (.tmp 17) (.const (.pointer none)), none, 0, false⟩])
 (.seq (.region [⟨(some 18), .move (.tmp 0), none, 0, false⟩,
 ⟨(some 19), .move (.tmp 0), none, 0, false⟩,
 ⟨(some 20), .move (.tmp 0), none, 0, false⟩,
 ⟨(some 21), .mkMap, none, 0, false⟩,
 ⟨(some 22), .call (.func 109) [], none, 0, false⟩,
 ⟨(some 23), .call (.func 110) [], none, 0, false⟩,
 ⟨(some 24), .nilCheck (.tmp 18), none, 0, false⟩,
 ⟨(some 25), .fieldAddr 5 (.tmp 24), none, 0, false⟩,
 ⟨none, .store 1 (.tmp 25) (.tmp 21), none, 0, false⟩,
 ⟨(some 26), .nilCheck (.tmp 19), none, 0, false⟩,
 ⟨(some 27), .fieldAddr 6 (.tmp 26), none, 0, false⟩,
 ⟨none, .store 1 (.tmp 27) (.tmp 22), none, 0, false⟩,
 ⟨(some 28), .nilCheck (.tmp 20), none, 0, false⟩,
 ⟨(some 29), .fieldAddr 7 (.tmp 28), none, 0, false⟩,
 ⟨none, .store 1 (.tmp 29) (.tmp 23), none, 0, false⟩])
 (.seq (.seq (.region [⟨(some 30), .move (.tmp 1), none, 0, false⟩,
 ⟨(some 31), .call (.func 79) [(.tmp 30)], none, 0, false⟩,
 ⟨(some 32), .field1 1 (.tmp 31), none, 0, false⟩,
 ⟨(some 33), .len false (.tmp 32), none, 0, false⟩,
 ⟨(some 34), .move (.const (.int .i64 0)), none, 0, false⟩])
 (.block 0 (.loop (.seq (.region [⟨(some 35), .bin .lss (.tmp 34) (.tmp 33), none, 0, false⟩])
 (.seq (.cond (.tmp 35) .skip
 (.exit 0))
 (.seq (.block 1 (.seq (.region [⟨(some 36), .indexAddr 14 (.tmp 32) (.tmp 34), none, 0, false⟩,
 ⟨(some 37), .loadN 14 (.tmp 36), none, 0, false⟩,
 ⟨(some 6), .alloc [(.int .i64 0), (.int .u8 0), (.int .u8 0), (.int .u8 0), (.int .u8 0), (.int .i64 0), (.int .u64 0), (.int .u64 0), (.int .u64 0), (.int .u64 0), (.int .u64 0), (.int .u64 0), (.int .u64 0), (.int .u64 0)] 185, none, 0, false⟩,
 ⟨none, .store 14 (.tmp 6) (.tmp 37), none, 0, false⟩])
 (.seq (.region [⟨(some 38), .move (.tmp 0), none, 0, false⟩,
 ⟨(some 39), .loadN 14 (.tmp 6), none, 0, false⟩,
 ⟨(some 40), .call (.func 111) [(.tmp 38), (.tmp 39)], none, 0, false⟩,
 ⟨(some 7), .move (.tmp 40), none, 0, false⟩])
 (.seq (.region [⟨(some 41), .move (.tmp 7), none, 0, false⟩,
 ⟨(some 42), .bin .neq (.tmp 41) (.const (.int .i64 0)), none, 0, false⟩])
 (.cond (.tmp 42) (.seq (.region [⟨(some 43), .move (.tmp 7), none, 0, false⟩,
 ⟨(some 4), .move (.tmp 43), none, 0, false⟩])
 .ret)
 .skip)))))
 (.region [⟨(some 44), .bin .add (.tmp 34) (.const (.int .i64 1)), none, 0, false⟩,
 ⟨(some 34), .move (.tmp 44), none, 0, false⟩])))))))
 (.seq (.region [⟨(some 4), .move (.const (.int .i64 0)), none, 0, false⟩])
 .ret)))))⟩

def L71 : LFunc := ⟨8, [.tmp 2],
 (.seq (.region [⟨(some 2), .move (.const (.bool false)), none, 0, false⟩])
 (.seq (.region [⟨(some 3), .move (.tmp 0), none, 0, false⟩,
 ⟨(some 4), .nilCheck (.tmp 3), none, 0, false⟩,
 ⟨(some 5), .fieldAddr 4 (.tmp 4), none, 0, false⟩,
 ⟨(some 6), .load1 (.tmp 5), none, 0, false⟩,
 ⟨(some 7), .eq false .ptr (.tmp 6) (.const (.pointer none)), none, 0, false⟩,
 ⟨(some 2), .move (.tmp 7), none, 0, false⟩])
 .ret))⟩

def L72 : LFunc := ⟨57, [.cellN 2 14, .tmp 3, .tmp 4],
 (.seq (.region [⟨(some 2), .alloc [(.int .i64 0), (.int .i64 0), (.int .i64 0), (.int .i64 0), (.int .i64 0), (.int .u8 0), (.int .u8 0), (.int .u8 0), (.int .u8 0), (.int .u8 0), (.int .u8 0), (.int .u8 0), (.int .u8 0), (.slice none 0 0)] 135, none, 0, false⟩,
 ⟨(some 3), .move (.const (.slice none 0 0)), none, 0, false⟩,
 ⟨(some 4), .move (.const (.int .i64 0)), none, 0, false⟩])
 (.seq (.seq (.region [⟨(some 8), .move (.tmp 0), none, 0, false⟩,
 ⟨(some 9), .call (.func 112) [(.tmp 8)], none, 0, false⟩,
 ⟨(some 5), .move (.tmp 9), none, 0, false⟩])
 (.seq (.region [⟨(some 10), .move (.tmp 5), none, 0, false⟩,
 ⟨(some 11), .bin .neq (.tmp 10) (.const (.int .i64 0)), none, 0, false⟩])
 (.cond (.tmp 11) (.seq (.region [⟨(some 12), .build [(.int .i64 0), (.int .i64 0), (.int .i64 0), (.int .i64 0), (.int .i64 0), (.int .u8 0), (.int .u8 0), (.int .u8 0), (.int .u8 0), (.int .u8 0), (.int .u8 0), (.int .u8 0), (.int .u8 0), (.slice none 0 0)] [], none, 0, false⟩,
 ⟨(some 13), .move (.tmp 5), none, 0, false⟩,
 ⟨none, .store 14 (.tmp 2) (.tmp 12), none, 0, false⟩,
 ⟨(some 3), .move (.const (.slice none 0 0)), none, 0, false⟩,
 ⟨(some 4), .move (.tmp 13), none, 0, false⟩])
 .ret)
 .skip)))
 (.seq (.region [⟨(some 14), .move (.tmp 0), none, 0, false⟩,
 ⟨(some 15), .indexAddr 1 (.tmp 14) (.const (.int .i64 0)), none, 0, false⟩,
 ⟨(some 16), .load1 (.tmp 15), none, 0, false⟩,
 ⟨(some 17), .bin .and (.tmp 16) (.const (.int .u8 15)), none, 0, false⟩,
 ⟨(some 18), .conv (.int .i64) (.tmp 17), none, 0, false⟩,
 ⟨(some 19), .bin .mul (.tmp 18) (.const (.int .i64 4)), none, 0, false⟩,
 ⟨(some 6), .move (.tmp 19), none, 0, false⟩])
 (.seq (.draw [⟨(some 24), .move (.tmp 0), none, 0, false⟩,
 ⟨(some 25), .call (.func 113) [(.tmp 24), (.const (.int .i64 4))], none, 0, true⟩,
 ⟨(some 26), .move (.tmp 0), none, 0, false⟩,
 ⟨(some 27), .call (.func 113) [(.tmp 26), (.const (.int .i64 6))], none, 1, true⟩,
 ⟨(some 20), .move (.tmp 0), none, 0, false⟩,
 ⟨(some 21), .indexAddr 1 (.tmp 20) (.const (.int .i64 1)), none, 0, false⟩,
 ⟨(some 22), .load1 (.tmp 21), none, 0, false⟩,
 ⟨(some 23), .conv (.int .i64) (.tmp 22), none, 0, false⟩,
 ⟨(some 28), .move (.tmp 0), none, 0, false⟩,
 ⟨(some 29), .indexAddr 1 (.tmp 28) (.const (.int .i64 8)), none, 0, false⟩,
 ⟨(some 30), .load1 (.tmp 29), none, 0, false⟩,
 ⟨(some 31), .conv (.int .i64) (.tmp 30), none, 0, false⟩,
 ⟨(some 32), .move (.tmp 0), none, 0, false⟩,
 ⟨(some 33), .indexAddr 1 (.tmp 32) (.const (.int .i64 9)), none, 0, false⟩,
 ⟨(some 34), .load1 (.tmp 33), none, 0, false⟩,
 ⟨(some 35), .conv (.int .i64) (.tmp 34), none, 0, false⟩,
 ⟨(some 36), .build [(.int .i64 0), (.int .i64 0), (.int .i64 0), (.int .i64 0), (.int .i64 0), (.int .u8 0), (.int .u8 0), (.int .u8 0), (.int .u8 0), (.int .u8 0), (.int .u8 0), (.int .u8 0), (.int .u8 0), (.slice none 0 0)] [(0, 1, (.tmp 23)), (1, 1, (.tmp 25)), (2, 1, (.tmp 27)), (3, 1, (.tmp 31)), (4, 1, (.tmp 35))], none, 2, false⟩,
 ⟨(some 7), .alloc [(.int .i64 0), (.int .i64 0), (.int .i64 0), (.int .i64 0), (.int .i64 0), (.int .u8 0), (.int .u8 0), (.int .u8 0), (.int .u8 0), (.int .u8 0), (.int .u8 0), (.int .u8 0), (.int .u8 0), (.slice none 0 0)] 135, none, 0, false⟩,
 ⟨none, .store 14 (.tmp 7) (.tmp 36), none, 2, true⟩])
 (.seq (.draw [⟨(some 37), .fieldAddr 5 (.tmp 7), none, 0, false⟩,
 ⟨(some 38), .sliceArr 4 1 (.tmp 37) none none none, none, 0, false⟩,
 ⟨(some 39), .move (.tmp 0), none, 0, false⟩,
 ⟨(some 40), .slice 1 (.tmp 39) (some (.const (.int .i64 12))) none none, none, 0, false⟩,
 ⟨(some 41), .copy 1 (.tmp 38) (.tmp 40), none, 0, true⟩])
 (.seq (.draw [⟨(some 42), .fieldAddr 9 (.tmp 7), none, 0, false⟩,
 ⟨(some 43), .sliceArr 4 1 (.tmp 42) none none none, none, 0, false⟩,
 ⟨(some 44), .move (.tmp 0), none, 0, false⟩,
 ⟨(some 45), .slice 1 (.tmp 44) (some (.const (.int .i64 16))) none none, none, 0, false⟩,
 ⟨(some 46), .copy 1 (.tmp 43) (.tmp 45), none, 0, true⟩])
 (.seq (.region [⟨(some 47), .move (.tmp 0), none, 0, false⟩,
 ⟨(some 48), .move (.tmp 6), none, 0, false⟩,
 ⟨(some 49), .slice 1 (.tmp 47) (some (.const (.int .i64 20))) (some (.tmp 48)) none, none, 0, false⟩,
 ⟨(some 50), .call (.func 61) [(.tmp 49)], none, 0, false⟩,
 ⟨(some 51), .fieldAddr 13 (.tmp 7), none, 0, false⟩,
 ⟨none, .store 1 (.tmp 51) (.tmp 50), none, 0, false⟩])
 (.seq (.draw [⟨(some 53), .move (.tmp 0), none, 0, false⟩,
 ⟨(some 54), .move (.tmp 6), none, 0, false⟩,
 ⟨(some 55), .slice 1 (.tmp 53) (some (.tmp 54)) none none, none, 0, false⟩,
 ⟨(some 56), .call (.func 61) [(.tmp 55)], none, 0, true⟩,
 ⟨(some 52), .loadN 14 (.tmp 7), none, 0, false⟩,
 ⟨none, .store 14 (.tmp 2) (.tmp 52), none, 1, true⟩,
 ⟨(some 3), .move (.tmp 56), none, 2, false⟩,
 ⟨(some 4), .move (.const (.int .i64 0)), none, 2, false⟩])
 .ret))))))))⟩

def L73 : LFunc := ⟨31, [.cellN 4 6, .tmp 5],
 (.seq (.region [⟨(some 3), .box 4 30 (.tmp 1), none, 0, false⟩,
 ⟨(some 4), .alloc [(.int .u8 0), (.int .u8 0), (.int .u8 0), (.int .u8 0), (.int .i64 0), (.int .i64 0)] 139, none, 0, false⟩,
 ⟨(some 5), .move (.const (.bool false)), none, 0, false⟩])
 (.seq (.seq (.region [⟨(some 6), .move (.const (.int .i64 32)), none, 0, false⟩])
 (.block 0 (.loop (.seq (.seq (.region [⟨(some 10), .move (.tmp 6), none, 0, false⟩,
 ⟨(some 11), .bin .geq (.tmp 10) (.const (.int .i64 0)), none, 0, false⟩])
 (.cond (.tmp 11) .skip
 (.exit 0)))
 (.seq (.block 1 (.seq (.region [⟨(some 14), .loadN 4 (.tmp 3), none, 0, false⟩,
 ⟨(some 15), .move (.tmp 6), none, 0, false⟩,
 ⟨(some 16), .call (.func 114) [(.tmp 14), (.tmp 15)], none, 0, false⟩,
 ⟨(some 7), .alloc [(.int .u8 0), (.int .u8 0), (.int .u8 0), (.int .u8 0), (.int .i64 0)] 32, none, 0, false⟩,
 ⟨none, .store 5 (.tmp 7) (.tmp 16), none, 0, false⟩])
 (.seq (.draw [⟨(some 18), .move (.tmp 0), none, 0, false⟩,
 ⟨(some 19), .nilCheck (.tmp 18), none, 0, false⟩,
 ⟨(some 20), .fieldAddr 0 (.tmp 19), none, 0, false⟩,
 ⟨(some 21), .load1 (.tmp 20), none, 0, false⟩,
 ⟨(some 22), .loadN 5 (.tmp 7), none, 0, false⟩,
 ⟨(some 23), .lookup (.agg 5 [(0, .n), (1, .n), (2, .n), (3, .n), (4, .n)]) (.int .i64 0) true (.tmp 21) (.tmp 22), none, 0, false⟩,
 ⟨(some 17), .move (.tmp 23), none, 0, false⟩,
 ⟨(some 24), .extract (.tmp 17) 0, none, 0, false⟩,
 ⟨(some 25), .extract (.tmp 17) 1, none, 0, false⟩,
 ⟨(some 8), .move (.tmp 24), none, 0, false⟩,
 ⟨(some 9), .move (.tmp 25), none, 0, false⟩])
 (.seq (.region [⟨(some 26), .move (.tmp 9), none, 0, false⟩])
 (.cond (.tmp 26) (.seq (.region [⟨(some 27), .loadN 5 (.tmp 7), none, 0, false⟩,
 ⟨(some 28), .move (.tmp 8), none, 0, false⟩,
 ⟨(some 29), .build [(.int .u8 0), (.int .u8 0), (.int .u8 0), (.int .u8 0), (.int .i64 0), (.int .i64 0)] [(0, 5, (.tmp 27)), (5, 1, (.tmp 28))], none, 0, false⟩,
 ⟨none, .store 6 (.tmp 4) (.tmp 29), none, 0, false⟩,
 ⟨(some 5), .move (.const (.bool true)), none, 0, false⟩])
 .ret)
 .skip)))))
 (.region [⟨(some 12), .move (.tmp 6), none, 0, false⟩,
 ⟨(some 13), .bin .sub (.tmp 12) (.const (.int .i64 1)), none, 0, false⟩,
 ⟨(some 6), .move (.tmp 13), none, 0, false⟩]))))))
 (.seq (.region [⟨(some 30), .build [(.int .u8 0), (.int .u8 0), (.int .u8 0), (.int .u8 0), (.int .i64 0), (.int .i64 0)] [], none, 0, false⟩,
 ⟨none, .store 6 (.tmp 4) (.tmp 30), none, 0, false⟩,
 ⟨(some 5), .move (.const (.bool false)), none, 0, false⟩])
 .ret)))⟩

def L74 : LFunc := ⟨21, [.tmp 4],
 (.seq (.region [⟨(some 4), .move (.const (.int .i64 0)), none, 0, false⟩])
 (.seq (.seq (.draw [⟨(some 8), .move (.tmp 1), none, 0, false⟩,
 ⟨(some 9), .call (.func 61) [(.tmp 8)], none, 0, true⟩,
 ⟨(some 5), .move (.tmp 0), none, 0, false⟩,
 ⟨(some 6), .nilCheck (.tmp 5), none, 0, false⟩,
 ⟨(some 7), .fieldAddr 0 (.tmp 6), none, 0, false⟩,
 ⟨(some 10), .call (.func 115) [(.tmp 7), (.tmp 9)], none, 1, true⟩,
 ⟨(some 11), .un .not (.tmp 10), none, 2, false⟩])
 (.cond (.tmp 11) (.seq (.region [⟨(some 4), .move (.const (.int .i64 191)), none, 0, false⟩])
 .ret)
 .skip))
 (.seq (.region [⟨(some 12), .move (.tmp 0), none, 0, false⟩,
 ⟨(some 13), .nilCheck (.tmp 12), none, 0, false⟩,
 ⟨(some 14), .fieldAddr 3 (.tmp 13), none, 0, false⟩,
 ⟨(some 15), .load1 (.tmp 14), none, 0, false⟩,
 ⟨(some 16), .move (.tmp 1), none, 0, false⟩,
 ⟨(some 17), .len false (.tmp 16), none, 0, false⟩,
 ⟨(some 18), .bin .add (.tmp 15) (.tmp 17), none, 0, false⟩,
 ⟨(some 19), .nilCheck (.tmp 12), none, 0, false⟩,
 ⟨(some 20), .fieldAddr 3 (.tmp 19), none, 0, false⟩,
 ⟨none, .store 1 (.tmp 20) (.tmp 18), none, 0, false⟩])
 (.seq (.region [⟨(some 4), .move (.const (.int .i64 0)), none, 0, false⟩])
 .ret))))⟩

def L75 : LFunc := ⟨35, [.tmp 4],
 (.seq (.region [⟨(some 4), .move (.const (.int .i64 0)), none, 0, false⟩])
 (.seq (.seq (.region [⟨(some 8), .move (.tmp 0), none, 0, false⟩,
 ⟨(some 9), .nilCheck (.tmp 8), none, 0, false⟩,
 ⟨(some 10), .fieldAddr 0 (.tmp 9), none, 0, false⟩,
 ⟨(some 11), .load1 (.tmp 10), none, 0, false⟩,
 ⟨(some 12), .move (.tmp 1), none, 0, false⟩,
 ⟨(some 13), .lookup (.prim .n) (.pointer none) true (.tmp 11) (.tmp 12), none, 0, false⟩,
 ⟨(some 7), .move (.tmp 13), none, 0, false⟩,
 ⟨(some 14), .extract (.tmp 7) 0, none, 0, false⟩,
 ⟨(some 15), .extract (.tmp 7) 1, none, 0, false⟩,
 ⟨(some 5), .move (.tmp 14), none, 0, false⟩,
 ⟨(some 6), .move (.tmp 15), none, 0, false⟩])
 (.seq (.region [⟨(some 16), .move (.tmp 6), none, 0, false⟩,
 ⟨(some 17), .un .not (.tmp 16), none, 0, false⟩])
 (.cond (.tmp 17) (.seq (.region [⟨(some 4), .move (.const (.int .i64 201)), none, 0, false⟩])
 .ret)
 .skip)))
 (.seq (.seq (.region [⟨(some 18), .move (.tmp 0), none, 0, false⟩,
 ⟨(some 19), .nilCheck (.tmp 18), none, 0, false⟩,
 ⟨(some 20), .fieldAddr 1 (.tmp 19), none, 0, false⟩,
 ⟨(some 21), .load1 (.tmp 20), none, 0, false⟩,
 ⟨(some 22), .move (.tmp 1), none, 0, false⟩,
 ⟨(some 23), .call (.func 116) [(.tmp 21), (.tmp 22)], none, 0, false⟩,
 ⟨(some 24), .un .not (.tmp 23), none, 0, false⟩])
 (.cond (.tmp 24) (.region [⟨(some 25), .move (.tmp 0), none, 0, false⟩,
 ⟨(some 26), .move (.tmp 0), none, 0, false⟩,
 ⟨(some 27), .nilCheck (.tmp 26), none, 0, false⟩,
 ⟨(some 28), .fieldAddr 1 (.tmp 27), none, 0, false⟩,
 ⟨(some 29), .load1 (.tmp 28), none, 0, false⟩,
 ⟨(some 30), .move (.tmp 1), none, 0, false⟩,
 ⟨(some 31), .buildSlice 1 1 3 [(.int .i64 0)] [(0, 1, (.tmp 30))], none, 0, false⟩,
 ⟨(some 32), .append 1 8 3 [(.int .i64 0)] false (.tmp 29) (.tmp 31), none, 0, false⟩,
 ⟨(some 33), .nilCheck (.tmp 25), none, 0, false⟩,
 ⟨(some 34), .fieldAddr 1 (.tmp 33), none, 0, false⟩,
 ⟨none, .store 1 (.tmp 34) (.tmp 32), none, 0, false⟩])
 .skip))
 (.seq (.region [⟨(some 4), .move (.const (.int .i64 0)), none, 0, false⟩])
 .ret))))⟩

def L76 : LFunc := ⟨21, [],
 (.draw [⟨(some 5), .move (.tmp 0), none, 0, false⟩,
 ⟨(some 6), .nilCheck (.tmp 5), none, 0, false⟩,
 ⟨(some 7), .fieldAddr 2 (.tmp 6), none, 0, false⟩,
 ⟨(some 8), .load1 (.tmp 7), none, 0, false⟩,
 ⟨(some 9), .move (.tmp 0), none, 0, false⟩,
 ⟨(some 10), .nilCheck (.tmp 9), none, 0, false⟩,
 ⟨(some 11), .fieldAddr 0 (.tmp 10), none, 0, false⟩,
 ⟨(some 12), .load1 (.tmp 11), none, 0, false⟩,
 ⟨(some 13), .move (.tmp 1), none, 0, false⟩,
 ⟨(some 14), .move (.tmp 0), none, 0, false⟩,
 ⟨(some 15), .nilCheck (.tmp 14), none, 0, false⟩,
 ⟨(some 16), .fieldAddr 1 (.tmp 15), none, 0, false⟩,
 ⟨(some 17), .load1 (.tmp 16), none, 0, false⟩,
 ⟨(some 18), .call (.func 117) [(.tmp 8), (.tmp 12), (.tmp 13), (.tmp 17)], none, 0, true⟩,
 ⟨(some 4), .move (.tmp 0), none, 0, false⟩,
 ⟨(some 19), .nilCheck (.tmp 4), none, 1, false⟩,
 ⟨(some 20), .fieldAddr 2 (.tmp 19), none, 1, false⟩,
 ⟨none, .store 1 (.tmp 20) (.tmp 18), none, 1, true⟩])⟩

def L77 : LFunc := ⟨16, [.tmp 4],
 (.seq (.region [⟨(some 4), .move (.const (.int .u64 0)), none, 0, false⟩])
 (.seq (.region [⟨(some 8), .move (.tmp 0), none, 0, false⟩,
 ⟨(some 9), .move (.tmp 1), none, 0, false⟩,
 ⟨(some 10), .call (.func 118) [(.tmp 8), (.tmp 9), (.const (.int .u64 0))], none, 0, false⟩,
 ⟨(some 7), .move (.tmp 10), none, 0, false⟩,
 ⟨(some 11), .extract (.tmp 7) 0, none, 0, false⟩,
 ⟨(some 12), .extract (.tmp 7) 1, none, 0, false⟩,
 ⟨(some 5), .move (.tmp 11), none, 0, false⟩,
 ⟨(some 6), .move (.tmp 12), none, 0, false⟩])
 (.seq (.seq (.region [⟨(some 13), .move (.tmp 6), none, 0, false⟩,
 ⟨(some 14), .bin .neq (.tmp 13) (.const (.int .u64 0)), none, 0, false⟩])
 (.cond (.tmp 14) (.seq (.region [⟨(some 4), .move (.const (.int .u64 18446744073709551615)), none, 0, false⟩])
 .ret)
 .skip))
 (.seq (.region [⟨(some 15), .move (.tmp 5), none, 0, false⟩,
 ⟨(some 4), .move (.tmp 15), none, 0, false⟩])
 .ret))))⟩

def L78 : LFunc := ⟨61, [.tmp 4],
 (.seq (.region [⟨(some 3), .box 6 159 (.tmp 1), none, 0, false⟩,
 ⟨(some 4), .move (.const (.int .i64 0)), none, 0, false⟩])
 (.seq (.draw [⟨(some 12), .move (.tmp 0), none, 0, false⟩,
 ⟨(some 13), .nilCheck (.tmp 12), none, 0, false⟩,
 ⟨(some 14), .fieldAddr 2 (.tmp 13), none, 0, false⟩,
 ⟨(some 15), .fieldAddr 4 (.tmp 14), none, 0, false⟩,
 ⟨(some 16), .loadN 2 (.tmp 15), none, 0, false⟩,
 ⟨(some 17), .loadN 6 (.tmp 3), none, 0, false⟩,
 ⟨(some 18), .call (.func 119) [(.tmp 16), (.tmp 17)], none, 0, true⟩,
 ⟨(some 11), .move (.tmp 18), none, 1, false⟩,
 ⟨(some 19), .extract (.tmp 11) 0, none, 1, false⟩,
 ⟨(some 5), .alloc [(.int .u64 0), (.slice none 0 0)] 154, none, 0, false⟩,
 ⟨none, .store 2 (.tmp 5) (.tmp 19), none, 1, true⟩,
 ⟨(some 20), .extract (.tmp 11) 1, none, 1, false⟩,
 ⟨(some 6), .move (.tmp 20), none, 2, false⟩])
 (.seq (.seq (.region [⟨(some 21), .move (.tmp 6), none, 0, false⟩,
 ⟨(some 22), .bin .neq (.tmp 21) (.const (.int .i64 0)), none, 0, false⟩])
 (.cond (.tmp 22) (.seq (.region [⟨(some 23), .move (.tmp 6), none, 0, false⟩,
 ⟨(some 4), .move (.tmp 23), none, 0, false⟩])
 .ret)
 .skip))
 (.seq (.seq (.region [⟨(some 24), .move (.tmp 0), none, 0, false⟩,
 ⟨(some 25), .loadN 6 (.tmp 3), none, 0, false⟩,
 ⟨(some 26), .call (.func 120) [(.tmp 24), (.tmp 25)], none, 0, false⟩,
 ⟨(some 27), .un .not (.tmp 26), none, 0, false⟩])
 (.cond (.tmp 27) (.seq (.region [⟨(some 4), .move (.const (.int .i64 101)), none, 0, false⟩])
 .ret)
 .skip))
 (.seq (.region [⟨(some 29), .loadN 6 (.tmp 3), none, 0, false⟩,
 ⟨(some 30), .call (.func 121) [(.tmp 29)], none, 0, false⟩,
 ⟨(some 28), .move (.tmp 30), none, 0, false⟩,
 ⟨(some 31), .extract (.tmp 28) 0, none, 0, false⟩,
 ⟨(some 32), .extract (.tmp 28) 1, none, 0, false⟩,
 ⟨(some 7), .move (.tmp 31), none, 0, false⟩,
 ⟨(some 6), .move (.tmp 32), none, 0, false⟩])
 (.seq (.seq (.region [⟨(some 33), .move (.tmp 6), none, 0, false⟩,
 ⟨(some 34), .bin .neq (.tmp 33) (.const (.int .i64 0)), none, 0, false⟩])
 (.cond (.tmp 34) (.seq (.region [⟨(some 35), .move (.tmp 6), none, 0, false⟩,
 ⟨(some 4), .move (.tmp 35), none, 0, false⟩])
 .ret)
 .skip))
 (.seq (.seq (.region [⟨(some 37), .move (.tmp 0), none, 0, false⟩,
 ⟨(some 38), .nilCheck (.tmp 37), none, 0, false⟩,
 ⟨(some 39), .fieldAddr 1 (.tmp 38), none, 0, false⟩,
 ⟨(some 40), .load1 (.tmp 39), none, 0, false⟩,
 ⟨(some 41), .move (.tmp 7), none, 0, false⟩,
 ⟨(some 42), .call (.func 122) [(.tmp 40), (.tmp 41)], none, 0, false⟩,
 ⟨(some 36), .move (.tmp 42), none, 0, false⟩,
 ⟨(some 43), .extract (.tmp 36) 0, none, 0, false⟩,
 ⟨(some 44), .extract (.tmp 36) 1, none, 0, false⟩,
 ⟨(some 8), .move (.tmp 43), none, 0, false⟩,
 ⟨(some 9), .move (.tmp 44), none, 0, false⟩])
 (.seq (.region [⟨(some 45), .move (.tmp 9), none, 0, false⟩,
 ⟨(some 46), .bin .neq (.tmp 45) (.const (.int .i64 0)), none, 0, false⟩])
 (.cond (.tmp 46) (.seq (.region [⟨(some 47), .move (.tmp 9), none, 0, false⟩,
 ⟨(some 4), .move (.tmp 47), none, 0, false⟩])
 .ret)
 .skip)))
 (.seq (.seq (.region [⟨(some 48), .move (.tmp 0), none, 0, false⟩,
 ⟨(some 49), .nilCheck (.tmp 48), none, 0, false⟩,
 ⟨(some 50), .fieldAddr 1 (.tmp 49), none, 0, false⟩,
 ⟨(some 51), .load1 (.tmp 50), none, 0, false⟩,
 ⟨(some 52), .call (.func 123) [(.tmp 51)], none, 0, false⟩,
 ⟨(some 10), .move (.tmp 52), none, 0, false⟩])
 (.seq (.region [⟨(some 53), .move (.tmp 10), none, 0, false⟩,
 ⟨(some 54), .bin .neq (.tmp 53) (.const (.int .i64 0)), none, 0, false⟩])
 (.cond (.tmp 54) (.seq (.region [⟨(some 55), .move (.tmp 10), none, 0, false⟩,
 ⟨(some 4), .move (.tmp 55), none, 0, false⟩])
 .ret)
 .skip)))
 (.seq (.region [⟨(some 56), .move (.tmp 0), none, 0, false⟩,
 ⟨(some 57), .loadN 2 (.tmp 5), none, 0, false⟩,
 ⟨(some 58), .nilCheck (.tmp 56), none, 0, false⟩,
 ⟨(some 59), .fieldAddr 2 (.tmp 58), none, 0, false⟩,
 ⟨(some 60), .fieldAddr 4 (.tmp 59), none, 0, false⟩,
 ⟨none, .store 2 (.tmp 60) (.tmp 57), none, 0, false⟩])
 (.seq (.region [⟨(some 4), .move (.const (.int .i64 0)), none, 0, false⟩])
 .ret))))))))))⟩

def L79 : LFunc := ⟨17, [.cellN 2 2],
 (.seq (.region [⟨(some 2), .alloc [(.int .u64 0), (.slice none 0 0)] 154, none, 0, false⟩])
 (.seq (.draw [⟨(some 9), .move (.tmp 0), none, 0, false⟩,
 ⟨(some 10), .nilCheck (.tmp 9), none, 0, false⟩,
 ⟨(some 11), .fieldAddr 2 (.tmp 10), none, 0, false⟩,
 ⟨(some 12), .fieldAddr 4 (.tmp 11), none, 0, false⟩,
 ⟨(some 13), .fieldAddr 1 (.tmp 12), none, 0, false⟩,
 ⟨(some 14), .load1 (.tmp 13), none, 0, false⟩,
 ⟨(some 15), .call (.func 124) [(.tmp 14)], none, 0, true⟩,
 ⟨(some 3), .move (.tmp 0), none, 0, false⟩,
 ⟨(some 4), .nilCheck (.tmp 3), none, 0, false⟩,
 ⟨(some 5), .fieldAddr 2 (.tmp 4), none, 0, false⟩,
 ⟨(some 6), .fieldAddr 4 (.tmp 5), none, 0, false⟩,
 ⟨(some 7), .fieldAddr 0 (.tmp 6), none, 0, false⟩,
 ⟨(some 8), .load1 (.tmp 7), none, 0, false⟩,
 ⟨(some 16), .build [(.int .u64 0), (.slice none 0 0)] [(0, 1, (.tmp 8)), (1, 1, (.tmp 15))], none, 1, false⟩,
 ⟨none, .store 2 (.tmp 2) (.tmp 16), none, 1, true⟩])
 .ret))⟩

def L80 : LFunc := ⟨15, [.tmp 4],
 (.seq (.region [⟨(some 4), .move (.const (.int .i64 0)), none, 0, false⟩])
 (.seq (.seq (.region [⟨(some 5), .move (.tmp 1), none, 0, false⟩,
 ⟨(some 6), .bin .eql (.tmp 5) (.const (.int .i64 72)), none, 0, false⟩,
 ⟨(some 7), .move (.tmp 6), none, 0, false⟩,
 ⟨(some 8), .move (.tmp 1), (some (7, false)), 0, false⟩,
 ⟨(some 9), .bin .eql (.tmp 8) (.const (.int .i64 71)), (some (7, false)), 0, false⟩,
 ⟨(some 10), .pick (.tmp 7) (.const (.bool true)) (.tmp 9), none, 0, false⟩])
 (.cond (.tmp 10) (.region [⟨(some 11), .move (.tmp 0), none, 0, false⟩,
 ⟨(some 12), .nilCheck (.tmp 11), none, 0, false⟩,
 ⟨(some 13), .fieldAddr 4 (.tmp 12), none, 0, false⟩,
 ⟨none, .store 1 (.tmp 13) (.const (.pointer none)), none, 0, false⟩])
 .skip))
 (.seq (.region [⟨(some 14), .move (.tmp 1), none, 0, false⟩,
 ⟨(some 4), .move (.tmp 14), none, 0, false⟩])
 .ret)))⟩

def L81 : LFunc := ⟨8, [],
 (.region [⟨(some 2), .move (.tmp 0), none, 0, false⟩,
 ⟨(some 3), .move (.tmp 0), none, 0, false⟩,
 ⟨(some 4), .nilCheck (.tmp 2), none, 0, false⟩,
 ⟨(some 5), .fieldAddr 2 (.tmp 4), none, 0, false⟩,
 ⟨none, .store 1 (.tmp 5) (.const (.int .u64 0)), none, 0, false⟩,
 ⟨(some 6), .nilCheck (.tmp 3), none, 0, false⟩,
 ⟨(some 7), .fieldAddr 3 (.tmp 6), none, 0, false⟩,
 ⟨none, .store 1 (.tmp 7) (.const (.int .u64 0)), none, 0, false⟩])⟩

def L82 : LFunc := ⟨8, [.tmp 2],
 (.seq (.region [⟨(some 2), .move (.const (.slice none 0 0)), none, 0, false⟩])
 (.seq (.region [⟨(some 3), .move (.tmp 0), none, 0, false⟩,
 ⟨(some 4), .nilCheck (.tmp 3), none, 0, false⟩,
 ⟨(some 5), .fieldAddr 1 (.tmp 4), none, 0, false⟩,
 ⟨(some 6), .load1 (.tmp 5), none, 0, false⟩,
 ⟨(some 7), .call (.func 125) [(.tmp 6)], none, 0, false⟩,
 ⟨(some 2), .move (.tmp 7), none, 0, false⟩])
 .ret))⟩

def L83 : LFunc := ⟨53, [.tmp 2, .tmp 3, .tmp 4],
 (.seq (.region [⟨(some 2), .move (.const (.int .i64 0)), none, 0, false⟩,
 ⟨(some 3), .move (.const (.int .u64 0)), none, 0, false⟩,
 ⟨(some 4), .move (.const (.bool false)), none, 0, false⟩])
 (.seq (.seq (.region [⟨(some 6), .move (.tmp 0), none, 0, false⟩,
 ⟨(some 7), .nilCheck (.tmp 6), none, 0, false⟩,
 ⟨(some 8), .fieldAddr 1 (.tmp 7), none, 0, false⟩,
 ⟨(some 9), .load1 (.tmp 8), none, 0, false⟩,
 ⟨(some 10), .len false (.tmp 9), none, 0, false⟩,
 ⟨(some 11), .bin .eql (.tmp 10) (.const (.int .i64 0)), none, 0, false⟩])
 (.cond (.tmp 11) (.seq (.region [⟨(some 2), .move (.const (.int .i64 0)), none, 0, false⟩,
 ⟨(some 3), .move (.const (.int .u64 0)), none, 0, false⟩,
 ⟨(some 4), .move (.const (.bool false)), none, 0, false⟩])
 .ret)
 .skip))
 (.seq (.draw [⟨(some 12), .move (.tmp 0), none, 0, false⟩,
 ⟨(some 13), .nilCheck (.tmp 12), none, 0, false⟩,
 ⟨(some 14), .fieldAddr 0 (.tmp 13), none, 0, false⟩,
 ⟨(some 15), .load1 (.tmp 14), none, 0, false⟩,
 ⟨(some 16), .move (.tmp 0), none, 0, false⟩,
 ⟨(some 17), .nilCheck (.tmp 16), none, 0, false⟩,
 ⟨(some 18), .fieldAddr 1 (.tmp 17), none, 0, false⟩,
 ⟨(some 19), .load1 (.tmp 18), none, 0, false⟩,
 ⟨(some 20), .indexAddr 1 (.tmp 19) (.const (.int .i64 0)), none, 0, false⟩,
 ⟨(some 21), .load1 (.tmp 20), none, 0, false⟩,
 ⟨(some 22), .lookup (.prim .n) (.pointer none) false (.tmp 15) (.tmp 21), none, 0, false⟩,
 ⟨(some 5), .move (.tmp 22), none, 0, false⟩])
 (.seq (.seq (.region [⟨(some 23), .move (.tmp 5), none, 0, false⟩,
 ⟨(some 24), .nilCheck (.tmp 23), none, 0, false⟩,
 ⟨(some 25), .fieldAddr 2 (.tmp 24), none, 0, false⟩,
 ⟨(some 26), .load1 (.tmp 25), none, 0, false⟩,
 ⟨(some 27), .un .not (.tmp 26), none, 0, false⟩])
 (.cond (.tmp 27) (.seq (.region [⟨(some 28), .move (.tmp 5), none, 0, false⟩,
 ⟨(some 29), .nilCheck (.tmp 28), none, 0, false⟩,
 ⟨(some 30), .fieldAddr 2 (.tmp 29), none, 0, false⟩,
 ⟨none, .store 1 (.tmp 30) (.const (.bool true)), none, 0, false⟩])
 (.draw [⟨(some 32), .move (.tmp 5), none, 0, false⟩,
 ⟨(some 33), .nilCheck (.tmp 32), none, 0, false⟩,
 ⟨(some 34), .fieldAddr 1 (.tmp 33), none, 0, false⟩,
 ⟨(some 35), .load1 (.tmp 34), none, 0, false⟩,
 ⟨(some 36), .move (.tmp 5), none, 0, false⟩,
 ⟨(some 37), .nilCheck (.tmp 36), none, 0, false⟩,
 ⟨(some 38), .fieldAddr 0 (.tmp 37), none, 0, false⟩,
 ⟨(some 39), .load1 (.tmp 38), none, 0, false⟩,
 ⟨(some 40), .call (.func 77) [(.tmp 35), (.tmp 39)], none, 0, true⟩,
 ⟨(some 31), .move (.tmp 5), none, 0, false⟩,
 ⟨(some 41), .nilCheck (.tmp 31), none, 1, false⟩,
 ⟨(some 42), .fieldAddr 1 (.tmp 41), none, 1, false⟩,
 ⟨none, .store 1 (.tmp 42) (.tmp 40), none, 1, true⟩]))
 .skip))
 (.seq (.draw [⟨(some 43), .move (.tmp 0), none, 0, false⟩,
 ⟨(some 44), .nilCheck (.tmp 43), none, 0, false⟩,
 ⟨(some 45), .fieldAddr 1 (.tmp 44), none, 0, false⟩,
 ⟨(some 46), .load1 (.tmp 45), none, 0, false⟩,
 ⟨(some 47), .indexAddr 1 (.tmp 46) (.const (.int .i64 0)), none, 0, false⟩,
 ⟨(some 48), .load1 (.tmp 47), none, 0, false⟩,
 ⟨(some 49), .move (.tmp 5), none, 0, false⟩,
 ⟨(some 50), .nilCheck (.tmp 49), none, 0, false⟩,
 ⟨(some 51), .fieldAddr 1 (.tmp 50), none, 0, false⟩,
 ⟨(some 52), .load1 (.tmp 51), none, 0, false⟩,
 ⟨(some 2), .move (.tmp 48), none, 0, false⟩,
 ⟨(some 3), .move (.tmp 52), none, 0, false⟩,
 ⟨(some 4), .move (.const (.bool true)), none, 0, false⟩])
 .ret)))))⟩

def L84 : LFunc := ⟨16, [.tmp 2, .tmp 3],
 (.seq (.region [⟨(some 2), .move (.const (.slice none 0 0)), none, 0, false⟩,
 ⟨(some 3), .move (.const (.bool false)), none, 0, false⟩])
 (.seq (.region [⟨(some 7), .move (.tmp 0), none, 0, false⟩,
 ⟨(some 8), .nilCheck (.tmp 7), none, 0, false⟩,
 ⟨(some 9), .fieldAddr 0 (.tmp 8), none, 0, false⟩,
 ⟨(some 10), .call (.func 126) [(.tmp 9)], none, 0, false⟩,
 ⟨(some 6), .move (.tmp 10), none, 0, false⟩,
 ⟨(some 11), .extract (.tmp 6) 0, none, 0, false⟩,
 ⟨(some 12), .extract (.tmp 6) 1, none, 0, false⟩,
 ⟨(some 4), .move (.tmp 11), none, 0, false⟩,
 ⟨(some 5), .move (.tmp 12), none, 0, false⟩])
 (.seq (.region [⟨(some 13), .move (.tmp 4), none, 0, false⟩,
 ⟨(some 14), .call (.func 61) [(.tmp 13)], none, 0, false⟩,
 ⟨(some 15), .move (.tmp 5), none, 0, false⟩,
 ⟨(some 2), .move (.tmp 14), none, 0, false⟩,
 ⟨(some 3), .move (.tmp 15), none, 0, false⟩])
 .ret)))⟩

def L85 : LFunc := ⟨11, [.tmp 2],
 (.seq (.region [⟨(some 2), .move (.const (.bool false)), none, 0, false⟩])
 (.seq (.region [⟨(some 6), .move (.tmp 0), none, 0, false⟩,
 ⟨(some 7), .call (.func 127) [(.tmp 6), (.const (.bool true))], none, 0, false⟩,
 ⟨(some 5), .move (.tmp 7), none, 0, false⟩,
 ⟨(some 8), .extract (.tmp 5) 0, none, 0, false⟩,
 ⟨(some 9), .extract (.tmp 5) 1, none, 0, false⟩,
 ⟨(some 3), .move (.tmp 8), none, 0, false⟩,
 ⟨(some 4), .move (.tmp 9), none, 0, false⟩])
 (.seq (.region [⟨(some 10), .move (.tmp 4), none, 0, false⟩,
 ⟨(some 2), .move (.tmp 10), none, 0, false⟩])
 .ret)))⟩

def L86 : LFunc := ⟨53, [.tmp 6],
 (.seq (.region [⟨(some 6), .move (.const (.int .i64 0)), none, 0, false⟩])
 (.seq (.draw [⟨(some 8), .move (.tmp 1), none, 0, false⟩,
 ⟨(some 9), .nilCheck (.tmp 8), none, 0, false⟩,
 ⟨(some 10), .fieldAddr 16 (.tmp 9), none, 0, false⟩,
 ⟨(some 11), .load1 (.tmp 10), none, 0, false⟩,
 ⟨(some 12), .move (.tmp 2), none, 0, false⟩,
 ⟨(some 13), .call (.func 128) [(.tmp 11), (.tmp 12)], none, 0, true⟩,
 ⟨(some 14), .move (.tmp 13), none, 1, false⟩,
 ⟨(some 15), .move (.tmp 1), (some (14, false)), 1, false⟩,
 ⟨(some 16), .nilCheck (.tmp 15), (some (14, false)), 1, false⟩,
 ⟨(some 17), .fieldAddr 16 (.tmp 16), (some (14, false)), 1, false⟩,
 ⟨(some 18), .load1 (.tmp 17), (some (14, false)), 1, false⟩,
 ⟨(some 19), .move (.tmp 2), (some (14, false)), 1, false⟩,
 ⟨(some 20), .call (.func 129) [(.tmp 18), (.tmp 19)], (some (14, false)), 1, true⟩,
 ⟨(some 21), .move (.tmp 20), (some (14, false)), 2, false⟩,
 ⟨(some 26), .move (.tmp 1), (some (21, true)), 2, false⟩,
 ⟨(some 27), .move (.tmp 2), (some (21, true)), 2, false⟩,
 ⟨(some 28), .call (.func 130) [(.tmp 26), (.tmp 27)], (some (21, true)), 2, true⟩,
 ⟨(some 22), .move (.tmp 0), (some (21, true)), 2, false⟩,
 ⟨(some 23), .nilCheck (.tmp 22), (some (21, true)), 2, false⟩,
 ⟨(some 24), .fieldAddr 4 (.tmp 23), (some (21, true)), 2, false⟩,
 ⟨(some 25), .load1 (.tmp 24), (some (21, true)), 2, false⟩,
 ⟨(some 29), .call (.func 120) [(.tmp 25), (.tmp 28)], (some (21, true)), 3, true⟩,
 ⟨(some 30), .pick (.tmp 21) (.tmp 29) (.const (.bool false)), (some (14, false)), 4, false⟩,
 ⟨(some 31), .pick (.tmp 14) (.const (.bool true)) (.tmp 30), none, 4, false⟩,
 ⟨(some 7), .move (.tmp 31), none, 4, false⟩])
 (.seq (.block 0 (.seq (.region [⟨(some 33), .move (.tmp 7), none, 0, false⟩,
 ⟨(some 34), .move (.tmp 33), none, 0, false⟩,
 ⟨(some 35), .move (.tmp 1), (some (34, true)), 0, false⟩,
 ⟨(some 36), .nilCheck (.tmp 35), (some (34, true)), 0, false⟩,
 ⟨(some 37), .fieldAddr 14 (.tmp 36), (some (34, true)), 0, false⟩,
 ⟨(some 38), .load1 (.tmp 37), (some (34, true)), 0, false⟩,
 ⟨(some 39), .move (.tmp 2), (some (34, true)), 0, false⟩,
 ⟨(some 40), .call (.func 131) [(.tmp 38), (.tmp 39)], (some (34, true)), 0, false⟩,
 ⟨(some 41), .pick (.tmp 34) (.tmp 40) (.const (.bool false)), none, 0, false⟩,
 ⟨(some 32), .move (.tmp 41), none, 0, false⟩])
 (.cond (.tmp 32) (.seq (.region [⟨(some 6), .move (.const (.int .i64 1)), none, 0, false⟩])
 .ret)
 (.seq (.region [⟨(some 43), .move (.tmp 7), none, 0, false⟩,
 ⟨(some 44), .un .not (.tmp 43), none, 0, false⟩,
 ⟨(some 45), .move (.tmp 44), none, 0, false⟩,
 ⟨(some 46), .move (.tmp 1), (some (45, true)), 0, false⟩,
 ⟨(some 47), .nilCheck (.tmp 46), (some (45, true)), 0, false⟩,
 ⟨(some 48), .fieldAddr 15 (.tmp 47), (some (45, true)), 0, false⟩,
 ⟨(some 49), .load1 (.tmp 48), (some (45, true)), 0, false⟩,
 ⟨(some 50), .move (.tmp 2), (some (45, true)), 0, false⟩,
 ⟨(some 51), .call (.func 131) [(.tmp 49), (.tmp 50)], (some (45, true)), 0, false⟩,
 ⟨(some 52), .pick (.tmp 45) (.tmp 51) (.const (.bool false)), none, 0, false⟩,
 ⟨(some 42), .move (.tmp 52), none, 0, false⟩])
 (.cond (.tmp 42) (.seq (.region [⟨(some 6), .move (.const (.int .i64 2)), none, 0, false⟩])
 .ret)
 .skip)))))
 (.seq (.region [⟨(some 6), .move (.const (.int .i64 0)), none, 0, false⟩])
 .ret))))⟩

def L87 : LFunc := ⟨69, [.cellN 8 4, .tmp 9],
 (.seq (.region [⟨(some 8), .alloc [(.int .i64 0), (.int .i64 0), (.bool false), (.slice none 0 0)] 65, none, 0, false⟩,
 ⟨(some 9), .move (.const (.int .i64 0)), none, 0, false⟩])
 (.seq (.region [⟨(some 12), .move (.tmp 1), none, 0, false⟩,
 ⟨(some 13), .nilCheck (.tmp 12), none, 0, false⟩,
 ⟨(some 14), .fieldAddr 1 (.tmp 13), none, 0, false⟩,
 ⟨(some 15), .fieldAddr 0 (.tmp 14), none, 0, false⟩,
 ⟨(some 16), .load1 (.tmp 15), none, 0, false⟩,
 ⟨(some 17), .build [(.int .i64 0), (.int .i64 0), (.bool false), (.slice none 0 0)] [(0, 1, (.tmp 16)), (1, 1, (.const (.int .i64 1)))], none, 0, false⟩,
 ⟨(some 10), .alloc [(.int .i64 0), (.int .i64 0), (.bool false), (.slice none 0 0)] 65, none, 0, false⟩,
 ⟨none, .store 4 (.tmp 10) (.tmp 17), none, 0, false⟩])
 (.seq (.seq (.region [⟨(some 18), .move (.tmp 3), none, 0, false⟩,
 ⟨(some 19), .bin .eql (.tmp 18) (.const (.int .i64 2)), none, 0, false⟩])
 (.cond (.tmp 19) (.seq (.region [⟨(some 20), .move (.tmp 1), none, 0, false⟩,
 ⟨(some 21), .nilCheck (.tmp 20), none, 0, false⟩,
 ⟨(some 22), .fieldAddr 16 (.tmp 21), none, 0, false⟩,
 ⟨(some 23), .load1 (.tmp 22), none, 0, false⟩,
 ⟨(some 24), .move (.tmp 2), none, 0, false⟩,
 ⟨(some 25), .call (.func 129) [(.tmp 23), (.tmp 24)], none, 0, false⟩,
 ⟨(some 26), .fieldAddr 1 (.tmp 10), none, 0, false⟩,
 ⟨none, .store 1 (.tmp 26) (.const (.int .i64 2)), none, 0, false⟩,
 ⟨(some 27), .fieldAddr 2 (.tmp 10), none, 0, false⟩,
 ⟨none, .store 1 (.tmp 27) (.tmp 25), none, 0, false⟩])
 (.region [⟨(some 28), .move (.tmp 1), none, 0, false⟩,
 ⟨(some 29), .nilCheck (.tmp 28), none, 0, false⟩,
 ⟨(some 30), .fieldAddr 15 (.tmp 29), none, 0, false⟩,
 ⟨(some 31), .load1 (.tmp 30), none, 0, false⟩,
 ⟨(some 32), .move (.tmp 2), none, 0, false⟩,
 ⟨(some 33), .call (.func 132) [(.tmp 31), (.tmp 32)], none, 0, false⟩]))
 (.seq (.region [⟨(some 34), .move (.tmp 0), none, 0, false⟩,
 ⟨(some 35), .move (.tmp 1), none, 0, false⟩,
 ⟨(some 36), .move (.tmp 2), none, 0, false⟩,
 ⟨(some 37), .call (.func 133) [(.tmp 34), (.tmp 35), (.tmp 36)], none, 0, false⟩,
 ⟨(some 11), .move (.tmp 37), none, 0, false⟩])
 (.seq (.region [⟨(some 38), .move (.tmp 11), none, 0, false⟩,
 ⟨(some 39), .bin .neq (.tmp 38) (.const (.int .i64 0)), none, 0, false⟩])
 (.cond (.tmp 39) (.seq (.region [⟨(some 40), .build [(.int .i64 0), (.int .i64 0), (.bool false), (.slice none 0 0)] [], none, 0, false⟩,
 ⟨(some 41), .move (.tmp 11), none, 0, false⟩,
 ⟨none, .store 4 (.tmp 8) (.tmp 40), none, 0, false⟩,
 ⟨(some 9), .move (.tmp 41), none, 0, false⟩])
 .ret)
 .skip)))))
 (.seq (.region [⟨(some 43), .move (.tmp 1), none, 0, false⟩,
 ⟨(some 44), .nilCheck (.tmp 43), none, 0, false⟩,
 ⟨(some 45), .fieldAddr 0 (.tmp 44), none, 0, false⟩,
 ⟨(some 46), .load1 (.tmp 45), none, 0, false⟩,
 ⟨(some 47), .call (.func 134) [(.tmp 46)], none, 0, false⟩,
 ⟨(some 42), .move (.tmp 47), none, 0, false⟩,
 ⟨(some 48), .extract (.tmp 42) 0, none, 0, false⟩,
 ⟨(some 49), .extract (.tmp 42) 1, none, 0, false⟩,
 ⟨(some 50), .fieldAddr 3 (.tmp 10), none, 0, false⟩,
 ⟨none, .store 1 (.tmp 50) (.tmp 48), none, 0, false⟩])
 (.seq (.region [⟨(some 51), .move (.tmp 0), none, 0, false⟩,
 ⟨(some 52), .nilCheck (.tmp 51), none, 0, false⟩,
 ⟨(some 53), .fieldAddr 6 (.tmp 52), none, 0, false⟩,
 ⟨(some 54), .load1 (.tmp 53), none, 0, false⟩,
 ⟨(some 55), .move (.tmp 2), none, 0, false⟩,
 ⟨(some 56), .call (.func 135) [(.tmp 54), (.tmp 55)], none, 0, false⟩])
 (.seq (.seq (.region [⟨(some 57), .move (.tmp 1), none, 0, false⟩,
 ⟨(some 58), .nilCheck (.tmp 57), none, 0, false⟩,
 ⟨(some 59), .fieldAddr 0 (.tmp 58), none, 0, false⟩,
 ⟨(some 60), .load1 (.tmp 59), none, 0, false⟩,
 ⟨(some 61), .call (.func 95) [(.tmp 60)], none, 0, false⟩,
 ⟨(some 62), .bin .eql (.tmp 61) (.const (.int .i64 0)), none, 0, false⟩])
 (.cond (.tmp 62) (.region [⟨(some 63), .move (.tmp 0), none, 0, false⟩,
 ⟨(some 64), .nilCheck (.tmp 63), none, 0, false⟩,
 ⟨(some 65), .fieldAddr 6 (.tmp 64), none, 0, false⟩,
 ⟨(some 66), .load1 (.tmp 65), none, 0, false⟩,
 ⟨(some 67), .call (.func 136) [(.tmp 66)], none, 0, false⟩])
 .skip))
 (.seq (.region [⟨(some 68), .loadN 4 (.tmp 10), none, 0, false⟩,
 ⟨none, .store 4 (.tmp 8) (.tmp 68), none, 0, false⟩,
 ⟨(some 9), .move (.const (.int .i64 0)), none, 0, false⟩])
 .ret)))))))⟩

def L88 : LFunc := ⟨15, [.tmp 2],
 (.seq (.region [⟨(some 2), .move (.const (.bool false)), none, 0, false⟩])
 (.seq (.region [⟨(some 6), .move (.tmp 0), none, 0, false⟩,
 ⟨(some 7), .call (.func 127) [(.tmp 6), (.const (.bool true))], none, 0, false⟩,
 ⟨(some 5), .move (.tmp 7), none, 0, false⟩,
 ⟨(some 8), .extract (.tmp 5) 0, none, 0, false⟩,
 ⟨(some 9), .extract (.tmp 5) 1, none, 0, false⟩,
 ⟨(some 3), .move (.tmp 8), none, 0, false⟩,
 ⟨(some 4), .move (.tmp 9), none, 0, false⟩])
 (.seq (.seq (.region [⟨(some 10), .move (.tmp 4), none, 0, false⟩])
 (.cond (.tmp 10) (.region [⟨(some 11), .move (.tmp 3), none, 0, false⟩,
 ⟨(some 12), .nilCheck (.tmp 11), none, 0, false⟩,
 ⟨(some 13), .fieldAddr 1 (.tmp 12), none, 0, false⟩,
 ⟨none, .store 1 (.tmp 13) (.const (.int .u64 0)), none, 0, false⟩])
 .skip))
 (.seq (.region [⟨(some 14), .move (.tmp 4), none, 0, false⟩,
 ⟨(some 2), .move (.tmp 14), none, 0, false⟩])
 .ret))))⟩

def L89 : LFunc := ⟨12, [.tmp 2],
 (.seq (.region [⟨(some 2), .move (.const (.int .i64 0)), none, 0, false⟩])
 (.seq (.block 0 (.seq (.region [⟨(some 4), .move (.tmp 0), none, 0, false⟩,
 ⟨(some 5), .call (.func 71) [(.tmp 4)], none, 0, false⟩,
 ⟨(some 3), .move (.tmp 5), none, 0, false⟩])
 (.cond (.tmp 3) (.seq (.region [⟨(some 2), .move (.const (.int .i64 216)), none, 0, false⟩])
 .ret)
 (.seq (.region [⟨(some 7), .move (.tmp 0), none, 0, false⟩,
 ⟨(some 8), .nilCheck (.tmp 7), none, 0, false⟩,
 ⟨(some 9), .fieldAddr 9 (.tmp 8), none, 0, false⟩,
 ⟨(some 10), .load1 (.tmp 9), none, 0, false⟩,
 ⟨(some 11), .eq false .ptr (.tmp 10) (.const (.pointer none)), none, 0, false⟩,
 ⟨(some 6), .move (.tmp 11), none, 0, false⟩])
 (.cond (.tmp 6) (.seq (.region [⟨(some 2), .move (.const (.int .i64 215)), none, 0, false⟩])
 .ret)
 .skip)))))
 (.seq (.region [⟨(some 2), .move (.const (.int .i64 0)), none, 0, false⟩])
 .ret)))⟩

def L90 : LFunc := ⟨9, [.tmp 4],
 (.seq (.region [⟨(some 3), .box 13 34 (.tmp 1), none, 0, false⟩,
 ⟨(some 4), .move (.const (.int .i64 0)), none, 0, false⟩])
 (.seq (.region [⟨(some 5), .move (.tmp 0), none, 0, false⟩,
 ⟨(some 6), .loadN 13 (.tmp 3), none, 0, false⟩,
 ⟨(some 7), .build [(.int .i64 0), (.int .u8 0), (.int .u8 0), (.int .u8 0), (.int .u8 0), (.int .i64 0), (.int .u64 0), (.int .u64 0), (.int .u64 0), (.int .u64 0), (.int .u64 0), (.int .u64 0), (.int .u64 0), (.bool false)] [(0, 13, (.tmp 6)), (13, 1, (.const (.bool true)))], none, 0, false⟩,
 ⟨(some 8), .call (.func 137) [(.tmp 5), (.tmp 7)], none, 0, false⟩,
 ⟨(some 4), .move (.tmp 8), none, 0, false⟩])
 .ret))⟩

def L91 : LFunc := ⟨10, [.tmp 4],
 (.seq (.region [⟨(some 4), .move (.const (.int .i64 0)), none, 0, false⟩])
 (.seq (.region [⟨(some 5), .move (.tmp 0), none, 0, false⟩,
 ⟨(some 6), .move (.tmp 1), none, 0, false⟩,
 ⟨(some 7), .build [(.int .i64 0), (.int .u8 0), (.int .u8 0), (.int .u8 0), (.int .u8 0), (.int .i64 0), (.int .u64 0), (.int .u64 0), (.int .u64 0), (.int .u64 0), (.int .u64 0), (.int .u64 0), (.int .u64 0)] [(0, 1, (.tmp 6))], none, 0, false⟩,
 ⟨(some 8), .build [(.int .i64 0), (.int .u8 0), (.int .u8 0), (.int .u8 0), (.int .u8 0), (.int .i64 0), (.int .u64 0), (.int .u64 0), (.int .u64 0), (.int .u64 0), (.int .u64 0), (.int .u64 0), (.int .u64 0), (.bool false)] [(0, 13, (.tmp 7)), (13, 1, (.const (.bool false)))], none, 0, false⟩,
 ⟨(some 9), .call (.func 137) [(.tmp 5), (.tmp 8)], none, 0, false⟩,
 ⟨(some 4), .move (.tmp 9), none, 0, false⟩])
 .ret))⟩

def L92 : LFunc := ⟨8, [.tmp 2],
 (.seq (.region [⟨(some 2), .move (.const (.int .i64 0)), none, 0, false⟩])
 (.seq (.region [⟨(some 3), .move (.tmp 0), none, 0, false⟩,
 ⟨(some 4), .nilCheck (.tmp 3), none, 0, false⟩,
 ⟨(some 5), .fieldAddr 1 (.tmp 4), none, 0, false⟩,
 ⟨(some 6), .load1 (.tmp 5), none, 0, false⟩,
 ⟨(some 7), .call (.func 138) [(.tmp 6)], none, 0, false⟩,
 ⟨(some 2), .move (.tmp 7), none, 0, false⟩])
 .ret))⟩

def L93 : LFunc := ⟨7, [.tmp 2],
 (.seq (.region [⟨(some 2), .move (.const (.int .u64 0)), none, 0, false⟩])
 (.seq (.region [⟨(some 3), .move (.tmp 0), none, 0, false⟩,
 ⟨(some 4), .nilCheck (.tmp 3), none, 0, false⟩,
 ⟨(some 5), .fieldAddr 2 (.tmp 4), none, 0, false⟩,
 ⟨(some 6), .load1 (.tmp 5), none, 0, false⟩,
 ⟨(some 2), .move (.tmp 6), none, 0, false⟩])
 .ret))⟩

def L94 : LFunc := ⟨7, [.tmp 2],
 (.seq (.region [⟨(some 2), .move (.const (.int .u64 0)), none, 0, false⟩])
 (.seq (.region [⟨(some 3), .move (.tmp 0), none, 0, false⟩,
 ⟨(some 4), .nilCheck (.tmp 3), none, 0, false⟩,
 ⟨(some 5), .fieldAddr 3 (.tmp 4), none, 0, false⟩,
 ⟨(some 6), .load1 (.tmp 5), none, 0, false⟩,
 ⟨(some 2), .move (.tmp 6), none, 0, false⟩])
 .ret))⟩

def L95 : LFunc := ⟨8, [.tmp 2],
 (.seq (.region [⟨(some 2), .move (.const (.int .i64 0)), none, 0, false⟩])
 (.seq (.region [⟨(some 3), .move (.tmp 0), none, 0, false⟩,
 ⟨(some 4), .nilCheck (.tmp 3), none, 0, false⟩,
 ⟨(some 5), .fieldAddr 0 (.tmp 4), none, 0, false⟩,
 ⟨(some 6), .fieldAddr 2 (.tmp 5), none, 0, false⟩,
 ⟨(some 7), .load1 (.tmp 6), none, 0, false⟩,
 ⟨(some 2), .move (.tmp 7), none, 0, false⟩])
 .ret))⟩

def L96 : LFunc := ⟨7, [.tmp 2],
 (.seq (.region [⟨(some 2), .move (.const (.int .u64 0)), none, 0, false⟩])
 (.seq (.region [⟨(some 3), .move (.tmp 0), none, 0, false⟩,
 ⟨(some 4), .nilCheck (.tmp 3), none, 0, false⟩,
 ⟨(some 5), .fieldAddr 2 (.tmp 4), none, 0, false⟩,
 ⟨(some 6), .load1 (.tmp 5), none, 0, false⟩,
 ⟨(some 2), .move (.tmp 6), none, 0, false⟩])
 .ret))⟩

def L97 : LFunc := ⟨9, [],
 (.region [⟨(some 4), .move (.tmp 0), none, 0, false⟩,
 ⟨(some 5), .move (.tmp 1), none, 0, false⟩,
 ⟨(some 6), .max [(.tmp 5), (.const (.int .i64 (-1)))], none, 0, false⟩,
 ⟨(some 7), .nilCheck (.tmp 4), none, 0, false⟩,
 ⟨(some 8), .fieldAddr 2 (.tmp 7), none, 0, false⟩,
 ⟨none, .store 1 (.tmp 8) (.tmp 6), none, 0, false⟩])⟩

def L98 : LFunc := ⟨13, [],
 (.seq (.region [⟨(some 3), .box 1 35 (.tmp 1), none, 0, false⟩])
 (.seq (.region [⟨(some 4), .move (.tmp 0), none, 0, false⟩,
 ⟨(some 5), .mkFunc (.func 140) [] [(.tmp 3)], none, 0, false⟩,
 ⟨(some 6), .call (.func 139) [(.tmp 4), (.tmp 5)], none, 0, false⟩])
 (.region [⟨(some 7), .move (.tmp 0), none, 0, false⟩,
 ⟨(some 8), .move (.tmp 0), none, 0, false⟩,
 ⟨(some 9), .nilCheck (.tmp 7), none, 0, false⟩,
 ⟨(some 10), .fieldAddr 2 (.tmp 9), none, 0, false⟩,
 ⟨none, .store 1 (.tmp 10) (.const (.int .i64 (-1))), none, 0, false⟩,
 ⟨(some 11), .nilCheck (.tmp 8), none, 0, false⟩,
 ⟨(some 12), .fieldAddr 3 (.tmp 11), none, 0, false⟩,
 ⟨none, .store 1 (.tmp 12) (.const (.bool false)), none, 0, false⟩])))⟩

def L99 : LFunc := ⟨22, [.tmp 2],
 (.seq (.region [⟨(some 2), .move (.const (.int .i64 0)), none, 0, false⟩])
 (.seq (.seq (.region [⟨(some 5), .move (.tmp 0), none, 0, false⟩,
 ⟨(some 6), .call (.func 71) [(.tmp 5)], none, 0, false⟩,
 ⟨(some 7), .un .not (.tmp 6), none, 0, false⟩])
 (.cond (.tmp 7) (.seq (.region [⟨(some 2), .move (.const (.int .i64 216)), none, 0, false⟩])
 .ret)
 .skip))
 (.seq (.region [⟨(some 9), .move (.tmp 0), none, 0, false⟩,
 ⟨(some 10), .nilCheck (.tmp 9), none, 0, false⟩,
 ⟨(some 11), .fieldAddr 3 (.tmp 10), none, 0, false⟩,
 ⟨(some 12), .load1 (.tmp 11), none, 0, false⟩,
 ⟨(some 13), .call (.func 141) [(.tmp 12)], none, 0, false⟩,
 ⟨(some 8), .move (.tmp 13), none, 0, false⟩,
 ⟨(some 14), .extract (.tmp 8) 0, none, 0, false⟩,
 ⟨(some 15), .extract (.tmp 8) 1, none, 0, false⟩,
 ⟨(some 3), .move (.tmp 14), none, 0, false⟩,
 ⟨(some 4), .move (.tmp 15), none, 0, false⟩])
 (.seq (.seq (.region [⟨(some 16), .move (.tmp 4), none, 0, false⟩,
 ⟨(some 17), .bin .neq (.tmp 16) (.const (.int .i64 0)), none, 0, false⟩])
 (.cond (.tmp 17) (.seq (.region [⟨(some 18), .move (.tmp 4), none, 0, false⟩,
 ⟨(some 2), .move (.tmp 18), none, 0, false⟩])
 .ret)
 .skip))
 (.seq (.region [⟨(some 19), .move (.tmp 0), none, 0, false⟩,
 ⟨(some 20), .move (.tmp 3), none, 0, false⟩,
 ⟨(some 21), .call (.func 70) [(.tmp 19), (.tmp 20)], none, 0, false⟩,
 ⟨(some 2), .move (.tmp 21), none, 0, false⟩])
 .ret)))))⟩

def L100 : LFunc := ⟨16, [.tmp 2],
 (.seq (.region [⟨(some 2), .move (.const (.int .i64 0)), none, 0, false⟩])
 (.seq (.block 0 (.seq (.region [⟨(some 4), .move (.tmp 0), none, 0, false⟩,
 ⟨(some 5), .call (.func 71) [(.tmp 4)], none, 0, false⟩,
 ⟨(some 3), .move (.tmp 5), none, 0, false⟩])
 (.cond (.tmp 3) (.seq (.region [⟨(some 2), .move (.const (.int .i64 216)), none, 0, false⟩])
 .ret)
 (.seq (.region [⟨(some 7), .move (.tmp 0), none, 0, false⟩,
 ⟨(some 8), .nilCheck (.tmp 7), none, 0, false⟩,
 ⟨(some 9), .fieldAddr 9 (.tmp 8), none, 0, false⟩,
 ⟨(some 10), .load1 (.tmp 9), none, 0, false⟩,
 ⟨(some 11), .eq true .ptr (.tmp 10) (.const (.pointer none)), none, 0, false⟩,
 ⟨(some 6), .move (.tmp 11), none, 0, false⟩])
 (.cond (.tmp 6) (.seq (.region [⟨(some 2), .move (.const (.int .i64 214)), none, 0, false⟩])
 .ret)
 .skip)))))
 (.seq (.region [⟨(some 12), .move (.tmp 0), none, 0, false⟩,
 ⟨(some 13), .call (.func 142) [], none, 0, false⟩,
 ⟨(some 14), .nilCheck (.tmp 12), none, 0, false⟩,
 ⟨(some 15), .fieldAddr 9 (.tmp 14), none, 0, false⟩,
 ⟨none, .store 1 (.tmp 15) (.tmp 13), none, 0, false⟩])
 (.seq (.region [⟨(some 2), .move (.const (.int .i64 0)), none, 0, false⟩])
 .ret))))⟩

def L101 : LFunc := ⟨94, [.tmp 2],
 (.seq (.region [⟨(some 2), .move (.const (.int .i64 0)), none, 0, false⟩])
 (.seq (.seq (.region [⟨(some 16), .move (.tmp 0), none, 0, false⟩,
 ⟨(some 17), .call (.func 89) [(.tmp 16)], none, 0, false⟩,
 ⟨(some 3), .move (.tmp 17), none, 0, false⟩])
 (.seq (.region [⟨(some 18), .move (.tmp 3), none, 0, false⟩,
 ⟨(some 19), .bin .neq (.tmp 18) (.const (.int .i64 0)), none, 0, false⟩])
 (.cond (.tmp 19) (.seq (.region [⟨(some 20), .move (.tmp 3), none, 0, false⟩,
 ⟨(some 2), .move (.tmp 20), none, 0, false⟩])
 .ret)
 .skip)))
 (.seq (.region [⟨(some 21), .move (.tmp 0), none, 0, false⟩,
 ⟨(some 22), .nilCheck (.tmp 21), none, 0, false⟩,
 ⟨(some 23), .fieldAddr 9 (.tmp 22), none, 0, false⟩,
 ⟨(some 24), .load1 (.tmp 23), none, 0, false⟩,
 ⟨(some 4), .move (.tmp 24), none, 0, false⟩])
 (.seq (.region [⟨(some 25), .move (.tmp 0), none, 0, false⟩,
 ⟨(some 26), .nilCheck (.tmp 25), none, 0, false⟩,
 ⟨(some 27), .fieldAddr 9 (.tmp 26), none, 0, false⟩,
 ⟨none, .store 1 (.tmp 27) (.const (.pointer none)), none, 0, false⟩])
 (.seq (.region [⟨(some 29), .move (.tmp 4), none, 0, false⟩,
 ⟨(some 30), .move (.tmp 0), none, 0, false⟩,
 ⟨(some 31), .nilCheck (.tmp 30), none, 0, false⟩,
 ⟨(some 32), .fieldAddr 4 (.tmp 31), none, 0, false⟩,
 ⟨(some 33), .load1 (.tmp 32), none, 0, false⟩,
 ⟨(some 34), .call (.func 79) [(.tmp 33)], none, 0, false⟩,
 ⟨(some 35), .call (.func 143) [(.tmp 29), (.tmp 34)], none, 0, false⟩,
 ⟨(some 28), .move (.tmp 35), none, 0, false⟩,
 ⟨(some 36), .extract (.tmp 28) 0, none, 0, false⟩,
 ⟨(some 37), .extract (.tmp 28) 1, none, 0, false⟩,
 ⟨(some 38), .extract (.tmp 28) 2, none, 0, false⟩,
 ⟨(some 5), .alloc [(.int .i64 0), (.int .i64 0), (.slice none 0 0), (.slice none 0 0), (.int .u64 0), (.int .u64 0)] 159, none, 0, false⟩,
 ⟨none, .store 6 (.tmp 5) (.tmp 36), none, 0, false⟩,
 ⟨(some 6), .move (.tmp 37), none, 0, false⟩,
 ⟨(some 7), .move (.tmp 38), none, 0, false⟩])
 (.seq (.seq (.region [⟨(some 39), .move (.tmp 7), none, 0, false⟩,
 ⟨(some 40), .bin .neq (.tmp 39) (.const (.int .i64 0)), none, 0, false⟩,
 ⟨(some 41), .move (.tmp 40), none, 0, false⟩,
 ⟨(some 42), .move (.tmp 6), (some (41, false)), 0, false⟩,
 ⟨(some 43), .un .not (.tmp 42), (some (41, false)), 0, false⟩,
 ⟨(some 44), .pick (.tmp 41) (.const (.bool true)) (.tmp 43), none, 0, false⟩])
 (.cond (.tmp 44) (.seq (.region [⟨(some 45), .move (.tmp 7), none, 0, false⟩,
 ⟨(some 2), .move (.tmp 45), none, 0, false⟩])
 .ret)
 .skip))
 (.seq (.seq (.draw [⟨(some 46), .move (.tmp 0), none, 0, false⟩,
 ⟨(some 47), .nilCheck (.tmp 46), none, 0, false⟩,
 ⟨(some 48), .fieldAddr 4 (.tmp 47), none, 0, false⟩,
 ⟨(some 49), .load1 (.tmp 48), none, 0, false⟩,
 ⟨(some 50), .loadN 6 (.tmp 5), none, 0, false⟩,
 ⟨(some 51), .call (.func 78) [(.tmp 49), (.tmp 50)], none, 0, true⟩,
 ⟨(some 8), .move (.tmp 51), none, 1, false⟩])
 (.seq (.region [⟨(some 52), .move (.tmp 8), none, 0, false⟩,
 ⟨(some 53), .bin .neq (.tmp 52) (.const (.int .i64 0)), none, 0, false⟩])
 (.cond (.tmp 53) (.seq (.region [⟨(some 54), .move (.tmp 0), none, 0, false⟩,
 ⟨(some 55), .move (.tmp 8), none, 0, false⟩,
 ⟨(some 56), .call (.func 80) [(.tmp 54), (.tmp 55)], none, 0, false⟩,
 ⟨(some 2), .move (.tmp 56), none, 0, false⟩])
 .ret)
 .skip)))
 (.seq (.seq (.region [⟨(some 57), .fieldAddr 3 (.tmp 5), none, 0, false⟩,
 ⟨(some 58), .load1 (.tmp 57), none, 0, false⟩,
 ⟨(some 59), .len false (.tmp 58), none, 0, false⟩,
 ⟨(some 60), .move (.const (.int .i64 0)), none, 0, false⟩])
 (.block 0 (.loop (.seq (.region [⟨(some 61), .bin .lss (.tmp 60) (.tmp 59), none, 0, false⟩])
 (.seq (.cond (.tmp 61) .skip
 (.exit 0))
 (.seq (.block 1 (.seq (.region [⟨(some 62), .indexAddr 1 (.tmp 58) (.tmp 60), none, 0, false⟩,
 ⟨(some 63), .load1 (.tmp 62), none, 0, false⟩,
 ⟨(some 10), .move (.tmp 63), none, 0, false⟩])
 (.region [⟨(some 64), .move (.tmp 0), none, 0, false⟩,
 ⟨(some 65), .move (.tmp 10), none, 0, false⟩,
 ⟨(some 66), .call (.func 144) [(.tmp 64), (.tmp 65)], none, 0, false⟩])))
 (.region [⟨(some 67), .bin .add (.tmp 60) (.const (.int .i64 1)), none, 0, false⟩,
 ⟨(some 60), .move (.tmp 67), none, 0, false⟩])))))))
 (.seq (.seq (.region [⟨(some 68), .fieldAddr 2 (.tmp 5), none, 0, false⟩,
 ⟨(some 69), .load1 (.tmp 68), none, 0, false⟩,
 ⟨(some 70), .len false (.tmp 69), none, 0, false⟩,
 ⟨(some 71), .move (.const (.int .i64 0)), none, 0, false⟩])
 (.block 2 (.loop (.seq (.region [⟨(some 72), .bin .lss (.tmp 71) (.tmp 70), none, 0, false⟩])
 (.seq (.cond (.tmp 72) .skip
 (.exit 2))
 (.seq (.block 3 (.seq (.region [⟨(some 73), .indexAddr 13 (.tmp 69) (.tmp 71), none, 0, false⟩,
 ⟨(some 74), .loadN 13 (.tmp 73), none, 0, false⟩,
 ⟨(some 12), .alloc [(.int .i64 0), (.int .u8 0), (.int .u8 0), (.int .u8 0), (.int .u8 0), (.int .i64 0), (.int .u64 0), (.int .u64 0), (.int .u64 0), (.int .u64 0), (.int .u64 0), (.int .u64 0), (.int .u64 0)] 34, none, 0, false⟩,
 ⟨none, .store 13 (.tmp 12) (.tmp 74), none, 0, false⟩])
 (.region [⟨(some 75), .move (.tmp 0), none, 0, false⟩,
 ⟨(some 76), .fieldAddr 0 (.tmp 12), none, 0, false⟩,
 ⟨(some 77), .load1 (.tmp 76), none, 0, false⟩,
 ⟨(some 78), .call (.func 145) [(.tmp 75), (.tmp 77)], none, 0, false⟩])))
 (.region [⟨(some 79), .bin .add (.tmp 71) (.const (.int .i64 1)), none, 0, false⟩,
 ⟨(some 71), .move (.tmp 79), none, 0, false⟩])))))))
 (.seq (.seq (.region [⟨(some 80), .fieldAddr 2 (.tmp 5), none, 0, false⟩,
 ⟨(some 81), .load1 (.tmp 80), none, 0, false⟩,
 ⟨(some 82), .len false (.tmp 81), none, 0, false⟩,
 ⟨(some 83), .move (.const (.int .i64 0)), none, 0, false⟩])
 (.block 4 (.loop (.seq (.region [⟨(some 84), .bin .lss (.tmp 83) (.tmp 82), none, 0, false⟩])
 (.seq (.cond (.tmp 84) .skip
 (.exit 4))
 (.seq (.block 5 (.seq (.region [⟨(some 85), .indexAddr 13 (.tmp 81) (.tmp 83), none, 0, false⟩,
 ⟨(some 86), .loadN 13 (.tmp 85), none, 0, false⟩,
 ⟨(some 14), .alloc [(.int .i64 0), (.int .u8 0), (.int .u8 0), (.int .u8 0), (.int .u8 0), (.int .i64 0), (.int .u64 0), (.int .u64 0), (.int .u64 0), (.int .u64 0), (.int .u64 0), (.int .u64 0), (.int .u64 0)] 34, none, 0, false⟩,
 ⟨none, .store 13 (.tmp 14) (.tmp 86), none, 0, false⟩])
 (.seq (.region [⟨(some 87), .move (.tmp 0), none, 0, false⟩,
 ⟨(some 88), .loadN 13 (.tmp 14), none, 0, false⟩,
 ⟨(some 89), .call (.func 146) [(.tmp 87), (.tmp 88)], none, 0, false⟩,
 ⟨(some 15), .move (.tmp 89), none, 0, false⟩])
 (.seq (.region [⟨(some 90), .move (.tmp 15), none, 0, false⟩,
 ⟨(some 91), .bin .neq (.tmp 90) (.const (.int .i64 0)), none, 0, false⟩])
 (.cond (.tmp 91) (.seq (.region [⟨(some 92), .move (.tmp 15), none, 0, false⟩,
 ⟨(some 2), .move (.tmp 92), none, 0, false⟩])
 .ret)
 .skip)))))
 (.region [⟨(some 93), .bin .add (.tmp 83) (.const (.int .i64 1)), none, 0, false⟩,
 ⟨(some 83), .move (.tmp 93), none, 0, false⟩])))))))
 (.seq (.region [⟨(some 2), .move (.const (.int .i64 0)), none, 0, false⟩])
 .ret)))))))))))⟩

def L102 : LFunc := ⟨12, [.tmp 2],
 (.seq (.region [⟨(some 2), .move (.const (.int .i64 0)), none, 0, false⟩])
 (.seq (.region [⟨(some 4), .move (.tmp 0), none, 0, false⟩,
 ⟨(some 5), .call (.func 89) [(.tmp 4)], none, 0, false⟩,
 ⟨(some 3), .move (.tmp 5), none, 0, false⟩])
 (.seq (.seq (.region [⟨(some 6), .move (.tmp 3), none, 0, false⟩,
 ⟨(some 7), .bin .eql (.tmp 6) (.const (.int .i64 0)), none, 0, false⟩])
 (.cond (.tmp 7) (.region [⟨(some 8), .move (.tmp 0), none, 0, false⟩,
 ⟨(some 9), .nilCheck (.tmp 8), none, 0, false⟩,
 ⟨(some 10), .fieldAddr 9 (.tmp 9), none, 0, false⟩,
 ⟨none, .store 1 (.tmp 10) (.const (.pointer none)), none, 0, false⟩])
 .skip))
 (.seq (.region [⟨(some 11), .move (.tmp 3), none, 0, false⟩,
 ⟨(some 2), .move (.tmp 11), none, 0, false⟩])
 .ret))))⟩

def L103 : LFunc := ⟨12, [.tmp 2],
 (.seq (.region [⟨(some 2), .move (.const (.int .i64 0)), none, 0, false⟩])
 (.seq (.seq (.region [⟨(some 3), .move (.tmp 0), none, 0, false⟩,
 ⟨(some 4), .call (.func 71) [(.tmp 3)], none, 0, false⟩])
 (.cond (.tmp 4) (.seq (.region [⟨(some 2), .move (.const (.int .i64 216)), none, 0, false⟩])
 .ret)
 .skip))
 (.seq (.region [⟨(some 5), .move (.tmp 0), none, 0, false⟩,
 ⟨(some 6), .move (.tmp 0), none, 0, false⟩,
 ⟨(some 7), .nilCheck (.tmp 6), none, 0, false⟩,
 ⟨(some 8), .fieldAddr 4 (.tmp 7), none, 0, false⟩,
 ⟨(some 9), .load1 (.tmp 8), none, 0, false⟩,
 ⟨(some 10), .call (.func 147) [(.tmp 9)], none, 0, false⟩,
 ⟨(some 11), .call (.func 80) [(.tmp 5), (.tmp 10)], none, 0, false⟩,
 ⟨(some 2), .move (.tmp 11), none, 0, false⟩])
 .ret)))⟩

def L104 : LFunc := ⟨9, [.tmp 2],
 (.seq (.region [⟨(some 2), .move (.const (.int .i64 0)), none, 0, false⟩])
 (.seq (.region [⟨(some 3), .move (.tmp 0), none, 0, false⟩,
 ⟨(some 4), .call (.func 148) [(.tmp 3)], none, 0, false⟩,
 ⟨(some 5), .bin .add (.tmp 4) (.const (.int .i64 7)), none, 0, false⟩,
 ⟨(some 6), .bin .sub (.tmp 5) (.const (.int .i64 1)), none, 0, false⟩,
 ⟨(some 7), .bin .quo (.tmp 6) (.const (.int .i64 7)), none, 0, false⟩,
 ⟨(some 8), .max [(.const (.int .i64 1)), (.tmp 7)], none, 0, false⟩,
 ⟨(some 2), .move (.tmp 8), none, 0, false⟩])
 .ret))⟩

def L105 : LFunc := ⟨15, [.cellN 2 4],
 (.seq (.region [⟨(some 2), .alloc [(.int .u8 0), (.int .u8 0), (.int .u8 0), (.int .u8 0)] 30, none, 0, false⟩])
 (.seq (.region [⟨(some 3), .move (.tmp 0), none, 0, false⟩,
 ⟨(some 4), .bin .shr (.tmp 3) (.const (.int .u64 24)), none, 0, false⟩,
 ⟨(some 5), .conv (.int .u8) (.tmp 4), none, 0, false⟩,
 ⟨(some 6), .move (.tmp 0), none, 0, false⟩,
 ⟨(some 7), .bin .shr (.tmp 6) (.const (.int .u64 16)), none, 0, false⟩,
 ⟨(some 8), .conv (.int .u8) (.tmp 7), none, 0, false⟩,
 ⟨(some 9), .move (.tmp 0), none, 0, false⟩,
 ⟨(some 10), .bin .shr (.tmp 9) (.const (.int .u64 8)), none, 0, false⟩,
 ⟨(some 11), .conv (.int .u8) (.tmp 10), none, 0, false⟩,
 ⟨(some 12), .move (.tmp 0), none, 0, false⟩,
 ⟨(some 13), .conv (.int .u8) (.tmp 12), none, 0, false⟩,
 ⟨(some 14), .build [(.int .u8 0), (.int .u8 0), (.int .u8 0), (.int .u8 0)] [(0, 1, (.tmp 5)), (1, 1, (.tmp 8)), (2, 1, (.tmp 11)), (3, 1, (.tmp 13))], none, 0, false⟩,
 ⟨none, .store 4 (.tmp 2) (.tmp 14), none, 0, false⟩])
 .ret))⟩

def L106 : LFunc := ⟨13, [.tmp 2, .tmp 3],
 (.seq (.region [⟨(some 2), .move (.const (.int .i64 0)), none, 0, false⟩,
 ⟨(some 3), .move (.const (.int .i64 0)), none, 0, false⟩])
 (.seq (.seq (.region [⟨(some 4), .move (.tmp 0), none, 0, false⟩,
 ⟨(some 5), .bin .lss (.tmp 4) (.const (.int .i64 64)), none, 0, false⟩,
 ⟨(some 6), .move (.tmp 5), none, 0, false⟩,
 ⟨(some 7), .move (.tmp 0), (some (6, false)), 0, false⟩,
 ⟨(some 8), .bin .gtr (.tmp 7) (.const (.int .i64 512)), (some (6, false)), 0, false⟩,
 ⟨(some 9), .pick (.tmp 6) (.const (.bool true)) (.tmp 8), none, 0, false⟩])
 (.cond (.tmp 9) (.seq (.region [⟨(some 2), .move (.const (.int .i64 0)), none, 0, false⟩,
 ⟨(some 3), .move (.const (.int .i64 91)), none, 0, false⟩])
 .ret)
 .skip))
 (.seq (.region [⟨(some 10), .move (.tmp 0), none, 0, false⟩,
 ⟨(some 11), .bin .sub (.tmp 10) (.const (.int .i64 32)), none, 0, false⟩,
 ⟨(some 12), .bin .quo (.tmp 11) (.const (.int .i64 16)), none, 0, false⟩,
 ⟨(some 2), .move (.tmp 12), none, 0, false⟩,
 ⟨(some 3), .move (.const (.int .i64 0)), none, 0, false⟩])
 .ret)))⟩

def L107 : LFunc := ⟨8, [.tmp 2],
 (.seq (.region [⟨(some 2), .move (.const (.int .i64 0)), none, 0, false⟩])
 (.seq (.region [⟨(some 3), .move (.tmp 0), none, 0, false⟩,
 ⟨(some 4), .nilCheck (.tmp 3), none, 0, false⟩,
 ⟨(some 5), .fieldAddr 0 (.tmp 4), none, 0, false⟩,
 ⟨(some 6), .load1 (.tmp 5), none, 0, false⟩,
 ⟨(some 7), .len false (.tmp 6), none, 0, false⟩,
 ⟨(some 2), .move (.tmp 7), none, 0, false⟩])
 .ret))⟩

def L108 : LFunc := ⟨34, [.tmp 4, .tmp 5],
 (.seq (.region [⟨(some 3), .box 6 181 (.tmp 1), none, 0, false⟩,
 ⟨(some 4), .move (.const (.pointer none)), none, 0, false⟩,
 ⟨(some 5), .move (.const (.int .i64 0)), none, 0, false⟩])
 (.seq (.seq (.region [⟨(some 9), .move (.tmp 0), none, 0, false⟩,
 ⟨(some 10), .loadN 6 (.tmp 3), none, 0, false⟩,
 ⟨(some 11), .call (.func 149) [(.tmp 9), (.tmp 10)], none, 0, false⟩,
 ⟨(some 6), .move (.tmp 11), none, 0, false⟩])
 (.seq (.region [⟨(some 12), .move (.tmp 6), none, 0, false⟩,
 ⟨(some 13), .bin .neq (.tmp 12) (.const (.int .i64 0)), none, 0, false⟩])
 (.cond (.tmp 13) (.seq (.region [⟨(some 14), .move (.tmp 6), none, 0, false⟩,
 ⟨(some 4), .move (.const (.pointer none)), none, 0, false⟩,
 ⟨(some 5), .move (.tmp 14), none, 0, false⟩])
 .ret)
 .skip)))
 (.seq (.region [⟨(some 16), .move (.tmp 0), none, 0, false⟩,
 ⟨(some 17), .fieldAddr 1 (.tmp 3), none, 0, false⟩,
 ⟨(some 18), .load1 (.tmp 17), none, 0, false⟩,
 ⟨(some 19), .fieldAddr 2 (.tmp 3), none, 0, false⟩,
 ⟨(some 20), .load1 (.tmp 19), none, 0, false⟩,
 ⟨(some 21), .fieldAddr 3 (.tmp 3), none, 0, false⟩,
 ⟨(some 22), .load1 (.tmp 21), none, 0, false⟩,
 ⟨(some 23), .call (.func 150) [(.tmp 16), (.tmp 18), (.tmp 20), (.tmp 22)], none, 0, false⟩,
 ⟨(some 15), .move (.tmp 23), none, 0, false⟩,
 ⟨(some 24), .extract (.tmp 15) 0, none, 0, false⟩,
 ⟨(some 25), .extract (.tmp 15) 1, none, 0, false⟩,
 ⟨(some 7), .move (.tmp 24), none, 0, false⟩,
 ⟨(some 8), .move (.tmp 25), none, 0, false⟩])
 (.seq (.seq (.region [⟨(some 26), .move (.tmp 8), none, 0, false⟩,
 ⟨(some 27), .bin .neq (.tmp 26) (.const (.int .i64 0)), none, 0, false⟩])
 (.cond (.tmp 27) (.seq (.region [⟨(some 28), .move (.tmp 8), none, 0, false⟩,
 ⟨(some 4), .move (.const (.pointer none)), none, 0, false⟩,
 ⟨(some 5), .move (.tmp 28), none, 0, false⟩])
 .ret)
 .skip))
 (.seq (.region [⟨(some 29), .move (.tmp 0), none, 0, false⟩,
 ⟨(some 30), .move (.tmp 7), none, 0, false⟩,
 ⟨(some 31), .loadN 6 (.tmp 3), none, 0, false⟩,
 ⟨(some 32), .build [(.pointer none), (.pointer none), (.int .u64 0), (.int .u32 0), (.int .u64 0), (.int .i64 0), (.int .u64 0), (.slice none 0 0)] [(0, 1, (.tmp 29)), (1, 1, (.tmp 30)), (2, 6, (.tmp 31))], none, 0, false⟩,
 ⟨(some 33), .box 8 211 (.tmp 32), none, 0, false⟩,
 ⟨(some 4), .move (.tmp 33), none, 0, false⟩,
 ⟨(some 5), .move (.const (.int .i64 0)), none, 0, false⟩])
 .ret)))))⟩

def L109 : LFunc := ⟨4, [.tmp 0],
 (.seq (.region [⟨(some 0), .move (.const (.pointer none)), none, 0, false⟩])
 (.seq (.region [⟨(some 1), .mkMap, none, 0, false⟩,
 ⟨(some 2), .build [(.map none), (.slice none 0 0)] [(0, 1, (.tmp 1))], none, 0, false⟩,
 ⟨(some 3), .box 2 200 (.tmp 2), none, 0, false⟩,
 ⟨(some 0), .move (.tmp 3), none, 0, false⟩])
 .ret))⟩

def L110 : LFunc := ⟨4, [.tmp 0],
 (.seq (.region [⟨(some 0), .move (.const (.pointer none)), none, 0, false⟩])
 (.seq (.region [⟨(some 1), .mkMap, none, 0, false⟩,
 ⟨(some 2), .build [(.map none)] [(0, 1, (.tmp 1))], none, 0, false⟩,
 ⟨(some 3), .box 1 191 (.tmp 2), none, 0, false⟩,
 ⟨(some 0), .move (.tmp 3), none, 0, false⟩])
 .ret))⟩

def L111 : LFunc := ⟨71, [.tmp 4],
 (.seq (.region [⟨(some 3), .box 14 185 (.tmp 1), none, 0, false⟩,
 ⟨(some 4), .move (.const (.int .i64 0)), none, 0, false⟩])
 (.seq (.region [⟨(some 9), .fieldAddr 0 (.tmp 3), none, 0, false⟩,
 ⟨(some 10), .loadN 13 (.tmp 9), none, 0, false⟩,
 ⟨(some 5), .alloc [(.int .i64 0), (.int .u8 0), (.int .u8 0), (.int .u8 0), (.int .u8 0), (.int .i64 0), (.int .u64 0), (.int .u64 0), (.int .u64 0), (.int .u64 0), (.int .u64 0), (.int .u64 0), (.int .u64 0)] 34, none, 0, false⟩,
 ⟨none, .store 13 (.tmp 5) (.tmp 10), none, 0, false⟩])
 (.seq (.region [⟨(some 12), .fieldAddr 10 (.tmp 5), none, 0, false⟩,
 ⟨(some 13), .load1 (.tmp 12), none, 0, false⟩,
 ⟨(some 14), .fieldAddr 11 (.tmp 5), none, 0, false⟩,
 ⟨(some 15), .load1 (.tmp 14), none, 0, false⟩,
 ⟨(some 16), .fieldAddr 13 (.tmp 3), none, 0, false⟩,
 ⟨(some 17), .load1 (.tmp 16), none, 0, false⟩,
 ⟨(some 18), .call (.func 151) [(.tmp 13), (.tmp 15), (.tmp 17)], none, 0, false⟩,
 ⟨(some 11), .move (.tmp 18), none, 0, false⟩,
 ⟨(some 19), .extract (.tmp 11) 0, none, 0, false⟩,
 ⟨(some 20), .extract (.tmp 11) 1, none, 0, false⟩,
 ⟨(some 6), .move (.tmp 19), none, 0, false⟩,
 ⟨(some 7), .move (.tmp 20), none, 0, false⟩])
 (.seq (.seq (.region [⟨(some 21), .move (.tmp 7), none, 0, false⟩,
 ⟨(some 22), .bin .neq (.tmp 21) (.const (.int .i64 0)), none, 0, false⟩])
 (.cond (.tmp 22) (.seq (.region [⟨(some 23), .move (.tmp 7), none, 0, false⟩,
 ⟨(some 4), .move (.tmp 23), none, 0, false⟩])
 .ret)
 .skip))
 (.seq (.draw [⟨(some 30), .move (.tmp 0), none, 0, false⟩,
 ⟨(some 31), .nilCheck (.tmp 30), none, 0, false⟩,
 ⟨(some 32), .fieldAddr 0 (.tmp 31), none, 0, false⟩,
 ⟨(some 33), .fieldAddr 1 (.tmp 32), none, 0, false⟩,
 ⟨(some 34), .load1 (.tmp 33), none, 0, false⟩,
 ⟨(some 35), .call (.func 152) [(.tmp 34)], none, 0, true⟩,
 ⟨(some 37), .fieldAddr 6 (.tmp 5), none, 0, false⟩,
 ⟨(some 38), .load1 (.tmp 37), none, 0, false⟩,
 ⟨(some 39), .fieldAddr 7 (.tmp 5), none, 0, false⟩,
 ⟨(some 40), .load1 (.tmp 39), none, 0, false⟩,
 ⟨(some 41), .call (.func 153) [(.tmp 38), (.tmp 40)], none, 1, true⟩,
 ⟨(some 42), .fieldAddr 8 (.tmp 5), none, 0, false⟩,
 ⟨(some 43), .load1 (.tmp 42), none, 0, false⟩,
 ⟨(some 44), .fieldAddr 9 (.tmp 5), none, 0, false⟩,
 ⟨(some 45), .load1 (.tmp 44), none, 0, false⟩,
 ⟨(some 46), .call (.func 153) [(.tmp 43), (.tmp 45)], none, 2, true⟩,
 ⟨(some 24), .move (.tmp 0), none, 0, false⟩,
 ⟨(some 25), .nilCheck (.tmp 24), none, 0, false⟩,
 ⟨(some 26), .fieldAddr 5 (.tmp 25), none, 0, false⟩,
 ⟨(some 27), .load1 (.tmp 26), none, 0, false⟩,
 ⟨(some 28), .fieldAddr 0 (.tmp 5), none, 0, false⟩,
 ⟨(some 29), .load1 (.tmp 28), none, 0, false⟩,
 ⟨(some 36), .loadN 13 (.tmp 5), none, 0, false⟩,
 ⟨(some 47), .move (.tmp 6), none, 0, false⟩,
 ⟨(some 48), .build [(.pointer none), (.int .i64 0), (.int .u8 0), (.int .u8 0), (.int .u8 0), (.int .u8 0), (.int .i64 0), (.int .u64 0), (.int .u64 0), (.int .u64 0), (.int .u64 0), (.int .u64 0), (.int .u64 0), (.int .u64 0), (.pointer none), (.pointer none), (.pointer none)] [(0, 1, (.tmp 35)), (1, 13, (.tmp 36)), (14, 1, (.tmp 41)), (15, 1, (.tmp 46)), (16, 1, (.tmp 47))], none, 3, false⟩,
 ⟨(some 49), .box 17 148 (.tmp 48), none, 3, false⟩,
 ⟨none, .mapUpdate (.prim .n) (.tmp 27) (.tmp 29) (.tmp 49), none, 3, true⟩])
 (.seq (.seq (.draw [⟨(some 50), .move (.tmp 0), none, 0, false⟩,
 ⟨(some 51), .nilCheck (.tmp 50), none, 0, false⟩,
 ⟨(some 52), .fieldAddr 7 (.tmp 51), none, 0, false⟩,
 ⟨(some 53), .load1 (.tmp 52), none, 0, false⟩,
 ⟨(some 54), .fieldAddr 1 (.tmp 5), none, 0, false⟩,
 ⟨(some 55), .loadN 5 (.tmp 54), none, 0, false⟩,
 ⟨(some 56), .fieldAddr 0 (.tmp 5), none, 0, false⟩,
 ⟨(some 57), .load1 (.tmp 56), none, 0, false⟩,
 ⟨(some 58), .call (.func 154) [(.tmp 53), (.tmp 55), (.tmp 57)], none, 0, true⟩,
 ⟨(some 8), .move (.tmp 58), none, 1, false⟩])
 (.seq (.region [⟨(some 59), .move (.tmp 8), none, 0, false⟩,
 ⟨(some 60), .bin .neq (.tmp 59) (.const (.int .i64 0)), none, 0, false⟩])
 (.cond (.tmp 60) (.seq (.region [⟨(some 61), .move (.tmp 8), none, 0, false⟩,
 ⟨(some 4), .move (.tmp 61), none, 0, false⟩])
 .ret)
 .skip)))
 (.seq (.draw [⟨(some 62), .move (.tmp 0), none, 0, false⟩,
 ⟨(some 63), .nilCheck (.tmp 62), none, 0, false⟩,
 ⟨(some 64), .fieldAddr 6 (.tmp 63), none, 0, false⟩,
 ⟨(some 65), .load1 (.tmp 64), none, 0, false⟩,
 ⟨(some 66), .fieldAddr 0 (.tmp 5), none, 0, false⟩,
 ⟨(some 67), .load1 (.tmp 66), none, 0, false⟩,
 ⟨(some 68), .fieldAddr 12 (.tmp 5), none, 0, false⟩,
 ⟨(some 69), .load1 (.tmp 68), none, 0, false⟩,
 ⟨(some 70), .call (.func 155) [(.tmp 65), (.tmp 67), (.tmp 69)], none, 0, true⟩,
 ⟨(some 4), .move (.tmp 70), none, 1, false⟩])
 .ret)))))))⟩

def L112 : LFunc := ⟨43, [.tmp 2],
 (.seq (.region [⟨(some 2), .move (.const (.int .i64 0)), none, 0, false⟩])
 (.seq (.seq (.region [⟨(some 4), .move (.tmp 0), none, 0, false⟩,
 ⟨(some 5), .len false (.tmp 4), none, 0, false⟩,
 ⟨(some 6), .bin .lss (.tmp 5) (.const (.int .i64 20)), none, 0, false⟩])
 (.cond (.tmp 6) (.seq (.region [⟨(some 2), .move (.const (.int .i64 51)), none, 0, false⟩])
 .ret)
 .skip))
 (.seq (.seq (.region [⟨(some 7), .move (.tmp 0), none, 0, false⟩,
 ⟨(some 8), .indexAddr 1 (.tmp 7) (.const (.int .i64 0)), none, 0, false⟩,
 ⟨(some 9), .load1 (.tmp 8), none, 0, false⟩,
 ⟨(some 10), .bin .shr (.tmp 9) (.const (.int .u64 4)), none, 0, false⟩,
 ⟨(some 11), .bin .neq (.tmp 10) (.const (.int .u8 4)), none, 0, false⟩])
 (.cond (.tmp 11) (.seq (.region [⟨(some 2), .move (.const (.int .i64 52)), none, 0, false⟩])
 .ret)
 .skip))
 (.seq (.region [⟨(some 12), .move (.tmp 0), none, 0, false⟩,
 ⟨(some 13), .indexAddr 1 (.tmp 12) (.const (.int .i64 0)), none, 0, false⟩,
 ⟨(some 14), .load1 (.tmp 13), none, 0, false⟩,
 ⟨(some 15), .bin .and (.tmp 14) (.const (.int .u8 15)), none, 0, false⟩,
 ⟨(some 16), .conv (.int .i64) (.tmp 15), none, 0, false⟩,
 ⟨(some 17), .bin .mul (.tmp 16) (.const (.int .i64 4)), none, 0, false⟩,
 ⟨(some 3), .move (.tmp 17), none, 0, false⟩])
 (.seq (.seq (.region [⟨(some 18), .move (.tmp 3), none, 0, false⟩,
 ⟨(some 19), .bin .lss (.tmp 18) (.const (.int .i64 20)), none, 0, false⟩,
 ⟨(some 20), .move (.tmp 19), none, 0, false⟩,
 ⟨(some 21), .move (.tmp 3), (some (20, false)), 0, false⟩,
 ⟨(some 22), .move (.tmp 0), (some (20, false)), 0, false⟩,
 ⟨(some 23), .len false (.tmp 22), (some (20, false)), 0, false⟩,
 ⟨(some 24), .bin .gtr (.tmp 21) (.tmp 23), (some (20, false)), 0, false⟩,
 ⟨(some 25), .pick (.tmp 20) (.const (.bool true)) (.tmp 24), none, 0, false⟩,
 ⟨(some 26), .move (.tmp 25), none, 0, false⟩,
 ⟨(some 27), .move (.tmp 0), (some (26, false)), 0, false⟩,
 ⟨(some 28), .call (.func 113) [(.tmp 27), (.const (.int .i64 2))], (some (26, false)), 0, false⟩,
 ⟨(some 29), .move (.tmp 0), (some (26, false)), 0, false⟩,
 ⟨(some 30), .len false (.tmp 29), (some (26, false)), 0, false⟩,
 ⟨(some 31), .bin .neq (.tmp 28) (.tmp 30), (some (26, false)), 0, false⟩,
 ⟨(some 32), .pick (.tmp 26) (.const (.bool true)) (.tmp 31), none, 0, false⟩,
 ⟨(some 33), .move (.tmp 32), none, 0, false⟩,
 ⟨(some 34), .move (.tmp 0), (some (33, false)), 0, false⟩,
 ⟨(some 35), .len false (.tmp 34), (some (33, false)), 0, false⟩,
 ⟨(some 36), .bin .gtr (.tmp 35) (.const (.int .i64 1500)), (some (33, false)), 0, false⟩,
 ⟨(some 37), .pick (.tmp 33) (.const (.bool true)) (.tmp 36), none, 0, false⟩])
 (.cond (.tmp 37) (.seq (.region [⟨(some 2), .move (.const (.int .i64 53)), none, 0, false⟩])
 .ret)
 .skip))
 (.seq (.seq (.region [⟨(some 38), .move (.tmp 0), none, 0, false⟩,
 ⟨(some 39), .move (.tmp 3), none, 0, false⟩,
 ⟨(some 40), .slice 1 (.tmp 38) none (some (.tmp 39)) none, none, 0, false⟩,
 ⟨(some 41), .call (.func 156) [(.tmp 40)], none, 0, false⟩,
 ⟨(some 42), .bin .neq (.tmp 41) (.const (.int .u16 0)), none, 0, false⟩])
 (.cond (.tmp 42) (.seq (.region [⟨(some 2), .move (.const (.int .i64 54)), none, 0, false⟩])
 .ret)
 .skip))
 (.seq (.region [⟨(some 2), .move (.const (.int .i64 0)), none, 0, false⟩])
 .ret)))))))⟩

def L113 : LFunc := ⟨18, [.tmp 4],
 (.seq (.region [⟨(some 4), .move (.const (.int .i64 0)), none, 0, false⟩])
 (.seq (.draw [⟨(some 5), .move (.tmp 0), none, 0, false⟩,
 ⟨(some 6), .move (.tmp 1), none, 0, false⟩,
 ⟨(some 7), .indexAddr 1 (.tmp 5) (.tmp 6), none, 0, false⟩,
 ⟨(some 8), .load1 (.tmp 7), none, 0, false⟩,
 ⟨(some 9), .conv (.int .i64) (.tmp 8), none, 0, false⟩,
 ⟨(some 10), .bin .shl (.tmp 9) (.const (.int .u64 8)), none, 0, false⟩,
 ⟨(some 11), .move (.tmp 0), none, 0, false⟩,
 ⟨(some 12), .move (.tmp 1), none, 0, false⟩,
 ⟨(some 13), .bin .add (.tmp 12) (.const (.int .i64 1)), none, 0, false⟩,
 ⟨(some 14), .indexAddr 1 (.tmp 11) (.tmp 13), none, 0, false⟩,
 ⟨(some 15), .load1 (.tmp 14), none, 0, false⟩,
 ⟨(some 16), .conv (.int .i64) (.tmp 15), none, 0, false⟩,
 ⟨(some 17), .bin .or (.tmp 10) (.tmp 16), none, 0, false⟩,
 ⟨(some 4), .move (.tmp 17), none, 0, false⟩])
 .ret))⟩

def L114 : LFunc := ⟨15, [.cellN 4 5],
 (.seq (.region [⟨(some 2), .box 4 30 (.tmp 0), none, 0, false⟩,
 ⟨(some 4), .alloc [(.int .u8 0), (.int .u8 0), (.int .u8 0), (.int .u8 0), (.int .i64 0)] 32, none, 0, false⟩])
 (.seq (.region [⟨(some 5), .loadN 4 (.tmp 2), none, 0, false⟩,
 ⟨(some 6), .call (.func 43) [(.tmp 5)], none, 0, false⟩,
 ⟨(some 7), .move (.tmp 1), none, 0, false⟩,
 ⟨(some 8), .call (.func 157) [(.tmp 7)], none, 0, false⟩,
 ⟨(some 9), .bin .and (.tmp 6) (.tmp 8), none, 0, false⟩,
 ⟨(some 10), .call (.func 105) [(.tmp 9)], none, 0, false⟩,
 ⟨(some 11), .move (.tmp 1), none, 0, false⟩,
 ⟨(some 12), .min [(.tmp 11), (.const (.int .i64 32))], none, 0, false⟩,
 ⟨(some 13), .max [(.const (.int .i64 0)), (.tmp 12)], none, 0, false⟩,
 ⟨(some 14), .build [(.int .u8 0), (.int .u8 0), (.int .u8 0), (.int .u8 0), (.int .i64 0)] [(0, 4, (.tmp 10)), (4, 1, (.tmp 13))], none, 0, false⟩,
 ⟨none, .store 5 (.tmp 4) (.tmp 14), none, 0, false⟩])
 .ret))⟩

def L115 : LFunc := ⟨34, [.tmp 4],
 (.seq (.region [⟨(some 4), .move (.const (.bool false)), none, 0, false⟩])
 (.seq (.seq (.draw [⟨(some 5), .move (.tmp 0), none, 0, false⟩,
 ⟨(some 6), .nilCheck (.tmp 5), none, 0, false⟩,
 ⟨(some 7), .fieldAddr 2 (.tmp 6), none, 0, false⟩,
 ⟨(some 8), .load1 (.tmp 7), none, 0, false⟩,
 ⟨(some 9), .move (.tmp 0), none, 0, false⟩,
 ⟨(some 10), .nilCheck (.tmp 9), none, 0, false⟩,
 ⟨(some 11), .fieldAddr 0 (.tmp 10), none, 0, false⟩,
 ⟨(some 12), .load1 (.tmp 11), none, 0, false⟩,
 ⟨(some 13), .len false (.tmp 12), none, 0, false⟩,
 ⟨(some 14), .bin .geq (.tmp 8) (.tmp 13), none, 0, false⟩])
 (.cond (.tmp 14) (.seq (.region [⟨(some 4), .move (.const (.bool false)), none, 0, false⟩])
 .ret)
 .skip))
 (.seq (.draw [⟨(some 19), .move (.tmp 0), none, 0, false⟩,
 ⟨(some 20), .move (.tmp 0), none, 0, false⟩,
 ⟨(some 21), .nilCheck (.tmp 20), none, 0, false⟩,
 ⟨(some 22), .fieldAddr 2 (.tmp 21), none, 0, false⟩,
 ⟨(some 23), .load1 (.tmp 22), none, 0, false⟩,
 ⟨(some 24), .call (.func 158) [(.tmp 19), (.tmp 23)], none, 0, true⟩,
 ⟨(some 15), .move (.tmp 0), none, 0, false⟩,
 ⟨(some 16), .nilCheck (.tmp 15), none, 0, false⟩,
 ⟨(some 17), .fieldAddr 0 (.tmp 16), none, 0, false⟩,
 ⟨(some 18), .load1 (.tmp 17), none, 0, false⟩,
 ⟨(some 25), .move (.tmp 1), none, 0, false⟩,
 ⟨(some 26), .indexAddr 1 (.tmp 18) (.tmp 24), none, 1, false⟩,
 ⟨none, .store 1 (.tmp 26) (.tmp 25), none, 1, true⟩])
 (.seq (.region [⟨(some 27), .move (.tmp 0), none, 0, false⟩,
 ⟨(some 28), .nilCheck (.tmp 27), none, 0, false⟩,
 ⟨(some 29), .fieldAddr 2 (.tmp 28), none, 0, false⟩,
 ⟨(some 30), .load1 (.tmp 29), none, 0, false⟩,
 ⟨(some 31), .bin .add (.tmp 30) (.const (.int .i64 1)), none, 0, false⟩,
 ⟨(some 32), .nilCheck (.tmp 27), none, 0, false⟩,
 ⟨(some 33), .fieldAddr 2 (.tmp 32), none, 0, false⟩,
 ⟨none, .store 1 (.tmp 33) (.tmp 31), none, 0, false⟩])
 (.seq (.region [⟨(some 4), .move (.const (.bool true)), none, 0, false⟩])
 .ret)))))⟩

def L116 : LFunc := ⟨9, [.tmp 4],
 (.seq (.region [⟨(some 4), .move (.const (.bool false)), none, 0, false⟩])
 (.seq (.region [⟨(some 5), .move (.tmp 0), none, 0, false⟩,
 ⟨(some 6), .move (.tmp 1), none, 0, false⟩,
 ⟨(some 7), .call (.func 159) [(.tmp 5), (.tmp 6)], none, 0, false⟩,
 ⟨(some 8), .bin .geq (.tmp 7) (.const (.int .i64 0)), none, 0, false⟩,
 ⟨(some 4), .move (.tmp 8), none, 0, false⟩])
 .ret))⟩

def L117 : LFunc := ⟨16, [.tmp 8],
 (.seq (.region [⟨(some 8), .move (.const (.int .u64 0)), none, 0, false⟩])
 (.seq (.region [⟨(some 9), .move (.tmp 3), none, 0, false⟩,
 ⟨(some 10), .move (.tmp 0), none, 0, false⟩,
 ⟨(some 11), .move (.tmp 1), none, 0, false⟩,
 ⟨(some 12), .move (.tmp 2), none, 0, false⟩,
 ⟨(some 13), .call (.func 160) [(.tmp 11), (.tmp 12)], none, 0, false⟩,
 ⟨(some 14), .call (.func 77) [(.tmp 10), (.tmp 13)], none, 0, false⟩,
 ⟨(some 15), .min [(.tmp 9), (.tmp 14)], none, 0, false⟩,
 ⟨(some 8), .move (.tmp 15), none, 0, false⟩])
 .ret))⟩

def L119 : LFunc := ⟨85, [.cellN 4 2, .tmp 5],
 (.seq (.region [⟨(some 2), .box 2 154 (.tmp 0), none, 0, false⟩,
 ⟨(some 3), .box 6 159 (.tmp 1), none, 0, false⟩,
 ⟨(some 4), .alloc [(.int .u64 0), (.slice none 0 0)] 154, none, 0, false⟩,
 ⟨(some 5), .move (.const (.int .i64 0)), none, 0, false⟩])
 (.seq (.draw [⟨(some 12), .fieldAddr 1 (.tmp 2), none, 0, false⟩,
 ⟨(some 13), .load1 (.tmp 12), none, 0, false⟩,
 ⟨(some 14), .call (.func 124) [(.tmp 13)], none, 0, true⟩,
 ⟨(some 10), .fieldAddr 0 (.tmp 2), none, 0, false⟩,
 ⟨(some 11), .load1 (.tmp 10), none, 0, false⟩,
 ⟨(some 15), .build [(.int .u64 0), (.slice none 0 0)] [(0, 1, (.tmp 11)), (1, 1, (.tmp 14))], none, 1, false⟩,
 ⟨(some 6), .alloc [(.int .u64 0), (.slice none 0 0)] 154, none, 0, false⟩,
 ⟨none, .store 2 (.tmp 6) (.tmp 15), none, 1, true⟩])
 (.seq (.seq (.region [⟨(some 16), .loadN 2 (.tmp 2), none, 0, false⟩,
 ⟨(some 17), .call (.func 161) [(.tmp 16)], none, 0, false⟩,
 ⟨(some 18), .un .not (.tmp 17), none, 0, false⟩,
 ⟨(some 19), .move (.tmp 18), none, 0, false⟩,
 ⟨(some 20), .loadN 6 (.tmp 3), (some (19, false)), 0, false⟩,
 ⟨(some 21), .call (.func 162) [(.tmp 20)], (some (19, false)), 0, false⟩,
 ⟨(some 22), .un .not (.tmp 21), (some (19, false)), 0, false⟩,
 ⟨(some 23), .pick (.tmp 19) (.const (.bool true)) (.tmp 22), none, 0, false⟩])
 (.cond (.tmp 23) (.seq (.region [⟨(some 24), .loadN 2 (.tmp 6), none, 0, false⟩,
 ⟨none, .store 2 (.tmp 4) (.tmp 24), none, 0, false⟩,
 ⟨(some 5), .move (.const (.int .i64 131)), none, 0, false⟩])
 .ret)
 .skip))
 (.seq (.draw [⟨(some 27), .fieldAddr 1 (.tmp 2), none, 0, false⟩,
 ⟨(some 28), .load1 (.tmp 27), none, 0, false⟩,
 ⟨(some 29), .call (.func 124) [(.tmp 28)], none, 0, true⟩,
 ⟨(some 25), .fieldAddr 0 (.tmp 2), none, 0, false⟩,
 ⟨(some 26), .load1 (.tmp 25), none, 0, false⟩,
 ⟨(some 30), .build [(.int .u64 0), (.slice none 0 0)] [(0, 1, (.tmp 26)), (1, 1, (.tmp 29))], none, 1, false⟩,
 ⟨(some 7), .alloc [(.int .u64 0), (.slice none 0 0)] 154, none, 0, false⟩,
 ⟨none, .store 2 (.tmp 7) (.tmp 30), none, 1, true⟩])
 (.seq (.region [⟨(some 8), .move (.const (.bool false)), none, 0, false⟩])
 (.seq (.seq (.region [⟨(some 31), .fieldAddr 0 (.tmp 3), none, 0, false⟩,
 ⟨(some 32), .load1 (.tmp 31), none, 0, false⟩])
 (.block 0 (.seq (.region [⟨(some 34), .bin .eql (.tmp 32) (.const (.int .i64 1)), none, 0, false⟩,
 ⟨(some 33), .move (.tmp 34), none, 0, false⟩])
 (.cond (.tmp 33) (.region [⟨(some 36), .fieldAddr 1 (.tmp 7), none, 0, false⟩,
 ⟨(some 37), .load1 (.tmp 36), none, 0, false⟩,
 ⟨(some 38), .loadN 6 (.tmp 3), none, 0, false⟩,
 ⟨(some 39), .call (.func 163) [(.tmp 37), (.tmp 38)], none, 0, false⟩,
 ⟨(some 35), .move (.tmp 39), none, 0, false⟩,
 ⟨(some 40), .extract (.tmp 35) 0, none, 0, false⟩,
 ⟨(some 41), .extract (.tmp 35) 1, none, 0, false⟩,
 ⟨(some 42), .fieldAddr 1 (.tmp 7), none, 0, false⟩,
 ⟨none, .store 1 (.tmp 42) (.tmp 40), none, 0, false⟩,
 ⟨(some 8), .move (.tmp 41), none, 0, false⟩])
 (.seq (.region [⟨(some 44), .bin .eql (.tmp 32) (.const (.int .i64 2)), none, 0, false⟩,
 ⟨(some 43), .move (.tmp 44), none, 0, false⟩])
 (.cond (.tmp 43) (.region [⟨(some 46), .fieldAddr 1 (.tmp 7), none, 0, false⟩,
 ⟨(some 47), .load1 (.tmp 46), none, 0, false⟩,
 ⟨(some 48), .loadN 6 (.tmp 3), none, 0, false⟩,
 ⟨(some 49), .call (.func 164) [(.tmp 47), (.tmp 48)], none, 0, false⟩,
 ⟨(some 45), .move (.tmp 49), none, 0, false⟩,
 ⟨(some 50), .extract (.tmp 45) 0, none, 0, false⟩,
 ⟨(some 51), .extract (.tmp 45) 1, none, 0, false⟩,
 ⟨(some 52), .fieldAddr 1 (.tmp 7), none, 0, false⟩,
 ⟨none, .store 1 (.tmp 52) (.tmp 50), none, 0, false⟩,
 ⟨(some 8), .move (.tmp 51), none, 0, false⟩])
 (.seq (.region [⟨(some 54), .bin .eql (.tmp 32) (.const (.int .i64 3)), none, 0, false⟩,
 ⟨(some 53), .move (.tmp 54), none, 0, false⟩])
 (.cond (.tmp 53) (.seq (.region [⟨(some 55), .fieldAddr 5 (.tmp 3), none, 0, false⟩,
 ⟨(some 56), .load1 (.tmp 55), none, 0, false⟩,
 ⟨(some 57), .fieldAddr 0 (.tmp 2), none, 0, false⟩,
 ⟨(some 58), .load1 (.tmp 57), none, 0, false⟩,
 ⟨(some 59), .bin .add (.tmp 58) (.const (.int .u64 1)), none, 0, false⟩,
 ⟨(some 60), .bin .eql (.tmp 56) (.tmp 59), none, 0, false⟩,
 ⟨(some 8), .move (.tmp 60), none, 0, false⟩])
 (.seq (.region [⟨(some 61), .fieldAddr 5 (.tmp 3), none, 0, false⟩,
 ⟨(some 62), .load1 (.tmp 61), none, 0, false⟩,
 ⟨(some 63), .fieldAddr 0 (.tmp 7), none, 0, false⟩,
 ⟨none, .store 1 (.tmp 63) (.tmp 62), none, 0, false⟩])
 (.seq (.region [⟨(some 64), .fieldAddr 1 (.tmp 7), none, 0, false⟩,
 ⟨(some 65), .load1 (.tmp 64), none, 0, false⟩,
 ⟨(some 66), .len false (.tmp 65), none, 0, false⟩,
 ⟨(some 67), .move (.const (.int .i64 0)), none, 0, false⟩])
 (.block 1 (.loop (.seq (.region [⟨(some 68), .bin .lss (.tmp 67) (.tmp 66), none, 0, false⟩])
 (.seq (.cond (.tmp 68) .skip
 (.exit 1))
 (.seq (.block 2 (.seq (.region [⟨(some 69), .move (.tmp 67), none, 0, false⟩,
 ⟨(some 9), .move (.tmp 69), none, 0, false⟩])
 (.region [⟨(some 70), .fieldAddr 1 (.tmp 7), none, 0, false⟩,
 ⟨(some 71), .load1 (.tmp 70), none, 0, false⟩,
 ⟨(some 72), .move (.tmp 9), none, 0, false⟩,
 ⟨(some 73), .indexAddr 14 (.tmp 71) (.tmp 72), none, 0, false⟩,
 ⟨(some 74), .fieldAddr 13 (.tmp 73), none, 0, false⟩,
 ⟨none, .store 1 (.tmp 74) (.const (.int .u64 0)), none, 0, false⟩])))
 (.region [⟨(some 75), .bin .add (.tmp 67) (.const (.int .i64 1)), none, 0, false⟩,
 ⟨(some 67), .move (.tmp 75), none, 0, false⟩])))))))))
 .skip))))))))
 (.seq (.seq (.region [⟨(some 76), .move (.tmp 8), none, 0, false⟩,
 ⟨(some 77), .un .not (.tmp 76), none, 0, false⟩,
 ⟨(some 78), .move (.tmp 77), none, 0, false⟩,
 ⟨(some 79), .loadN 2 (.tmp 7), (some (78, false)), 0, false⟩,
 ⟨(some 80), .call (.func 161) [(.tmp 79)], (some (78, false)), 0, false⟩,
 ⟨(some 81), .un .not (.tmp 80), (some (78, false)), 0, false⟩,
 ⟨(some 82), .pick (.tmp 78) (.const (.bool true)) (.tmp 81), none, 0, false⟩])
 (.cond (.tmp 82) (.seq (.region [⟨(some 83), .loadN 2 (.tmp 6), none, 0, false⟩,
 ⟨none, .store 2 (.tmp 4) (.tmp 83), none, 0, false⟩,
 ⟨(some 5), .move (.const (.int .i64 131)), none, 0, false⟩])
 .ret)
 .skip))
 (.seq (.region [⟨(some 84), .loadN 2 (.tmp 7), none, 0, false⟩,
 ⟨none, .store 2 (.tmp 4) (.tmp 84), none, 0, false⟩,
 ⟨(some 5), .move (.const (.int .i64 0)), none, 0, false⟩])
 .ret))))))))⟩

def L120 : LFunc := ⟨31, [.tmp 4],
 (.seq (.region [⟨(some 3), .box 6 159 (.tmp 1), none, 0, false⟩,
 ⟨(some 4), .move (.const (.bool false)), none, 0, false⟩])
 (.seq (.region [⟨(some 8), .loadN 6 (.tmp 3), none, 0, false⟩,
 ⟨(some 9), .call (.func 121) [(.tmp 8)], none, 0, false⟩,
 ⟨(some 7), .move (.tmp 9), none, 0, false⟩,
 ⟨(some 10), .extract (.tmp 7) 0, none, 0, false⟩,
 ⟨(some 11), .extract (.tmp 7) 1, none, 0, false⟩,
 ⟨(some 5), .move (.tmp 10), none, 0, false⟩,
 ⟨(some 6), .move (.tmp 11), none, 0, false⟩])
 (.seq (.region [⟨(some 12), .move (.tmp 6), none, 0, false⟩,
 ⟨(some 13), .bin .eql (.tmp 12) (.const (.int .i64 0)), none, 0, false⟩,
 ⟨(some 14), .move (.tmp 13), none, 0, false⟩,
 ⟨(some 15), .move (.tmp 0), (some (14, true)), 0, false⟩,
 ⟨(some 16), .nilCheck (.tmp 15), (some (14, true)), 0, false⟩,
 ⟨(some 17), .fieldAddr 1 (.tmp 16), (some (14, true)), 0, false⟩,
 ⟨(some 18), .load1 (.tmp 17), (some (14, true)), 0, false⟩,
 ⟨(some 19), .move (.tmp 5), (some (14, true)), 0, false⟩,
 ⟨(some 20), .len false (.tmp 19), (some (14, true)), 0, false⟩,
 ⟨(some 21), .call (.func 165) [(.tmp 18), (.tmp 20)], (some (14, true)), 0, false⟩,
 ⟨(some 22), .pick (.tmp 14) (.tmp 21) (.const (.bool false)), none, 0, false⟩,
 ⟨(some 23), .move (.tmp 22), none, 0, false⟩,
 ⟨(some 24), .move (.tmp 0), (some (23, true)), 0, false⟩,
 ⟨(some 25), .nilCheck (.tmp 24), (some (23, true)), 0, false⟩,
 ⟨(some 26), .fieldAddr 1 (.tmp 25), (some (23, true)), 0, false⟩,
 ⟨(some 27), .load1 (.tmp 26), (some (23, true)), 0, false⟩,
 ⟨(some 28), .call (.func 166) [(.tmp 27)], (some (23, true)), 0, false⟩,
 ⟨(some 29), .bin .leq (.tmp 28) (.const (.int .u64 281474976710656)), (some (23, true)), 0, false⟩,
 ⟨(some 30), .pick (.tmp 23) (.tmp 29) (.const (.bool false)), none, 0, false⟩,
 ⟨(some 4), .move (.tmp 30), none, 0, false⟩])
 .ret)))⟩

def L121 : LFunc := ⟨69, [.tmp 2, .tmp 3],
 (.seq (.region [⟨(some 1), .box 6 159 (.tmp 0), none, 0, false⟩,
 ⟨(some 2), .move (.const (.slice none 0 0)), none, 0, false⟩,
 ⟨(some 3), .move (.const (.int .i64 0)), none, 0, false⟩])
 (.seq (.seq (.region [⟨(some 9), .loadN 6 (.tmp 1), none, 0, false⟩,
 ⟨(some 10), .call (.func 162) [(.tmp 9)], none, 0, false⟩,
 ⟨(some 11), .un .not (.tmp 10), none, 0, false⟩])
 (.cond (.tmp 11) (.seq (.region [⟨(some 2), .move (.const (.slice none 0 0)), none, 0, false⟩,
 ⟨(some 3), .move (.const (.int .i64 121)), none, 0, false⟩])
 .ret)
 .skip))
 (.seq (.region [⟨(some 12), .fieldAddr 0 (.tmp 1), none, 0, false⟩,
 ⟨(some 13), .load1 (.tmp 12), none, 0, false⟩,
 ⟨(some 14), .conv (.int .u64) (.tmp 13), none, 0, false⟩,
 ⟨(some 15), .buildSlice 1 1 26 [(.int .u64 0)] [(0, 1, (.tmp 14))], none, 0, false⟩,
 ⟨(some 4), .move (.tmp 15), none, 0, false⟩])
 (.seq (.seq (.region [⟨(some 16), .fieldAddr 0 (.tmp 1), none, 0, false⟩,
 ⟨(some 17), .load1 (.tmp 16), none, 0, false⟩])
 (.block 0 (.seq (.region [⟨(some 51), .bin .eql (.tmp 17) (.const (.int .i64 2)), none, 0, false⟩,
 ⟨(some 50), .move (.tmp 51), none, 0, false⟩])
 (.cond (.tmp 50) (.region [⟨(some 52), .move (.tmp 4), none, 0, false⟩,
 ⟨(some 53), .fieldAddr 1 (.tmp 1), none, 0, false⟩,
 ⟨(some 54), .load1 (.tmp 53), none, 0, false⟩,
 ⟨(some 55), .conv (.int .u64) (.tmp 54), none, 0, false⟩,
 ⟨(some 56), .fieldAddr 4 (.tmp 1), none, 0, false⟩,
 ⟨(some 57), .load1 (.tmp 56), none, 0, false⟩,
 ⟨(some 58), .buildSlice 2 1 26 [(.int .u64 0), (.int .u64 0)] [(0, 1, (.tmp 55)), (1, 1, (.tmp 57))], none, 0, false⟩,
 ⟨(some 59), .append 1 8 26 [(.int .u64 0)] false (.tmp 52) (.tmp 58), none, 0, false⟩,
 ⟨(some 4), .move (.tmp 59), none, 0, false⟩])
 (.seq (.region [⟨(some 61), .bin .eql (.tmp 17) (.const (.int .i64 3)), none, 0, false⟩,
 ⟨(some 60), .move (.tmp 61), none, 0, false⟩])
 (.cond (.tmp 60) (.region [⟨(some 62), .move (.tmp 4), none, 0, false⟩,
 ⟨(some 63), .fieldAddr 5 (.tmp 1), none, 0, false⟩,
 ⟨(some 64), .load1 (.tmp 63), none, 0, false⟩,
 ⟨(some 65), .buildSlice 1 1 26 [(.int .u64 0)] [(0, 1, (.tmp 64))], none, 0, false⟩,
 ⟨(some 66), .append 1 8 26 [(.int .u64 0)] false (.tmp 62) (.tmp 65), none, 0, false⟩,
 ⟨(some 4), .move (.tmp 66), none, 0, false⟩])
 (.seq (.region [⟨(some 18), .move (.tmp 4), none, 0, false⟩,
 ⟨(some 19), .fieldAddr 3 (.tmp 1), none, 0, false⟩,
 ⟨(some 20), .load1 (.tmp 19), none, 0, false⟩,
 ⟨(some 21), .len false (.tmp 20), none, 0, false⟩,
 ⟨(some 22), .conv (.int .u64) (.tmp 21), none, 0, false⟩,
 ⟨(some 23), .buildSlice 1 1 26 [(.int .u64 0)] [(0, 1, (.tmp 22))], none, 0, false⟩,
 ⟨(some 24), .append 1 8 26 [(.int .u64 0)] false (.tmp 18) (.tmp 23), none, 0, false⟩,
 ⟨(some 4), .move (.tmp 24), none, 0, false⟩])
 (.seq (.seq (.region [⟨(some 25), .fieldAddr 3 (.tmp 1), none, 0, false⟩,
 ⟨(some 26), .load1 (.tmp 25), none, 0, false⟩,
 ⟨(some 27), .len false (.tmp 26), none, 0, false⟩,
 ⟨(some 28), .move (.const (.int .i64 0)), none, 0, false⟩])
 (.block 1 (.loop (.seq (.region [⟨(some 29), .bin .lss (.tmp 28) (.tmp 27), none, 0, false⟩])
 (.seq (.cond (.tmp 29) .skip
 (.exit 1))
 (.seq (.block 2 (.seq (.region [⟨(some 30), .indexAddr 1 (.tmp 26) (.tmp 28), none, 0, false⟩,
 ⟨(some 31), .load1 (.tmp 30), none, 0, false⟩,
 ⟨(some 6), .move (.tmp 31), none, 0, false⟩])
 (.region [⟨(some 32), .move (.tmp 4), none, 0, false⟩,
 ⟨(some 33), .move (.tmp 6), none, 0, false⟩,
 ⟨(some 34), .conv (.int .u64) (.tmp 33), none, 0, false⟩,
 ⟨(some 35), .buildSlice 1 1 26 [(.int .u64 0)] [(0, 1, (.tmp 34))], none, 0, false⟩,
 ⟨(some 36), .append 1 8 26 [(.int .u64 0)] false (.tmp 32) (.tmp 35), none, 0, false⟩,
 ⟨(some 4), .move (.tmp 36), none, 0, false⟩])))
 (.region [⟨(some 37), .bin .add (.tmp 28) (.const (.int .i64 1)), none, 0, false⟩,
 ⟨(some 28), .move (.tmp 37), none, 0, false⟩])))))))
 (.seq (.region [⟨(some 38), .fieldAddr 2 (.tmp 1), none, 0, false⟩,
 ⟨(some 39), .load1 (.tmp 38), none, 0, false⟩,
 ⟨(some 40), .len false (.tmp 39), none, 0, false⟩,
 ⟨(some 41), .move (.const (.int .i64 0)), none, 0, false⟩])
 (.block 3 (.loop (.seq (.region [⟨(some 42), .bin .lss (.tmp 41) (.tmp 40), none, 0, false⟩])
 (.seq (.cond (.tmp 42) .skip
 (.exit 3))
 (.seq (.block 4 (.seq (.region [⟨(some 43), .indexAddr 13 (.tmp 39) (.tmp 41), none, 0, false⟩,
 ⟨(some 44), .loadN 13 (.tmp 43), none, 0, false⟩,
 ⟨(some 8), .alloc [(.int .i64 0), (.int .u8 0), (.int .u8 0), (.int .u8 0), (.int .u8 0), (.int .i64 0), (.int .u64 0), (.int .u64 0), (.int .u64 0), (.int .u64 0), (.int .u64 0), (.int .u64 0), (.int .u64 0)] 34, none, 0, false⟩,
 ⟨none, .store 13 (.tmp 8) (.tmp 44), none, 0, false⟩])
 (.region [⟨(some 45), .move (.tmp 4), none, 0, false⟩,
 ⟨(some 46), .loadN 13 (.tmp 8), none, 0, false⟩,
 ⟨(some 47), .call (.func 167) [(.tmp 46)], none, 0, false⟩,
 ⟨(some 48), .append 1 8 26 [(.int .u64 0)] false (.tmp 45) (.tmp 47), none, 0, false⟩,
 ⟨(some 4), .move (.tmp 48), none, 0, false⟩])))
 (.region [⟨(some 49), .bin .add (.tmp 41) (.const (.int .i64 1)), none, 0, false⟩,
 ⟨(some 41), .move (.tmp 49), none, 0, false⟩])))))))))))))))
 (.seq (.region [⟨(some 67), .move (.tmp 4), none, 0, false⟩,
 ⟨(some 68), .call (.func 21) [(.tmp 67)], none, 0, false⟩,
 ⟨(some 2), .move (.tmp 68), none, 0, false⟩,
 ⟨(some 3), .move (.const (.int .i64 0)), none, 0, false⟩])
 .ret)))))⟩

def L122 : LFunc := ⟨98, [.tmp 4, .tmp 5],
 (.seq (.region [⟨(some 4), .move (.const (.int .u64 0)), none, 0, false⟩,
 ⟨(some 5), .move (.const (.int .i64 0)), none, 0, false⟩])
 (.seq (.draw [⟨(some 17), .move (.tmp 0), none, 0, false⟩,
 ⟨(some 18), .nilCheck (.tmp 17), none, 0, false⟩,
 ⟨(some 19), .fieldAddr 2 (.tmp 18), none, 0, false⟩,
 ⟨(some 20), .load1 (.tmp 19), none, 0, false⟩,
 ⟨(some 21), .max [(.tmp 20), (.const (.int .u64 1))], none, 0, false⟩,
 ⟨(some 22), .move (.tmp 0), none, 0, false⟩,
 ⟨(some 23), .nilCheck (.tmp 22), none, 0, false⟩,
 ⟨(some 24), .fieldAddr 1 (.tmp 23), none, 0, false⟩,
 ⟨(some 25), .load1 (.tmp 24), none, 0, false⟩,
 ⟨(some 26), .move (.tmp 1), none, 0, false⟩,
 ⟨(some 27), .build [(.int .u64 0), (.int .u32 0), (.slice none 0 0)] [(0, 1, (.tmp 21)), (1, 1, (.tmp 25)), (2, 1, (.tmp 26))], none, 0, false⟩,
 ⟨(some 6), .alloc [(.int .u64 0), (.int .u32 0), (.slice none 0 0)] 255, none, 0, false⟩,
 ⟨none, .store 3 (.tmp 6) (.tmp 27), none, 0, true⟩])
 (.seq (.region [⟨(some 29), .loadN 3 (.tmp 6), none, 0, false⟩,
 ⟨(some 30), .call (.func 168) [(.tmp 29)], none, 0, false⟩,
 ⟨(some 28), .move (.tmp 30), none, 0, false⟩,
 ⟨(some 31), .extract (.tmp 28) 0, none, 0, false⟩,
 ⟨(some 32), .extract (.tmp 28) 1, none, 0, false⟩,
 ⟨(some 7), .move (.tmp 31), none, 0, false⟩,
 ⟨(some 8), .move (.tmp 32), none, 0, false⟩])
 (.seq (.seq (.region [⟨(some 33), .move (.tmp 8), none, 0, false⟩,
 ⟨(some 34), .bin .neq (.tmp 33) (.const (.int .i64 0)), none, 0, false⟩])
 (.cond (.tmp 34) (.seq (.region [⟨(some 35), .move (.tmp 8), none, 0, false⟩,
 ⟨(some 4), .move (.const (.int .u64 0)), none, 0, false⟩,
 ⟨(some 5), .move (.tmp 35), none, 0, false⟩])
 .ret)
 .skip))
 (.seq (.region [⟨(some 37), .move (.tmp 0), none, 0, false⟩,
 ⟨(some 38), .move (.tmp 7), none, 0, false⟩,
 ⟨(some 39), .len false (.tmp 38), none, 0, false⟩,
 ⟨(some 40), .call (.func 169) [(.tmp 37), (.tmp 39)], none, 0, false⟩,
 ⟨(some 36), .move (.tmp 40), none, 0, false⟩,
 ⟨(some 41), .extract (.tmp 36) 0, none, 0, false⟩,
 ⟨(some 42), .extract (.tmp 36) 1, none, 0, false⟩,
 ⟨(some 43), .extract (.tmp 36) 2, none, 0, false⟩,
 ⟨(some 9), .move (.tmp 41), none, 0, false⟩,
 ⟨(some 10), .move (.tmp 42), none, 0, false⟩,
 ⟨(some 11), .move (.tmp 43), none, 0, false⟩])
 (.seq (.seq (.region [⟨(some 44), .move (.tmp 11), none, 0, false⟩,
 ⟨(some 45), .un .not (.tmp 44), none, 0, false⟩])
 (.cond (.tmp 45) (.seq (.region [⟨(some 4), .move (.const (.int .u64 0)), none, 0, false⟩,
 ⟨(some 5), .move (.const (.int .i64 101)), none, 0, false⟩])
 .ret)
 .skip))
 (.seq (.region [⟨(some 47), .move (.tmp 0), none, 0, false⟩,
 ⟨(some 48), .nilCheck (.tmp 47), none, 0, false⟩,
 ⟨(some 49), .fieldAddr 0 (.tmp 48), none, 0, false⟩,
 ⟨(some 50), .load1 (.tmp 49), none, 0, false⟩,
 ⟨(some 51), .call (.func 107) [(.tmp 50)], none, 0, false⟩,
 ⟨(some 52), .move (.tmp 9), none, 0, false⟩,
 ⟨(some 53), .call (.func 170) [(.tmp 51), (.tmp 52)], none, 0, false⟩,
 ⟨(some 46), .move (.tmp 53), none, 0, false⟩,
 ⟨(some 54), .extract (.tmp 46) 0, none, 0, false⟩,
 ⟨(some 55), .extract (.tmp 46) 1, none, 0, false⟩,
 ⟨(some 12), .move (.tmp 54), none, 0, false⟩,
 ⟨(some 13), .move (.tmp 55), none, 0, false⟩])
 (.seq (.seq (.region [⟨(some 56), .move (.tmp 7), none, 0, false⟩,
 ⟨(some 57), .len false (.tmp 56), none, 0, false⟩,
 ⟨(some 58), .move (.const (.int .i64 0)), none, 0, false⟩])
 (.block 0 (.loop (.seq (.region [⟨(some 59), .bin .lss (.tmp 58) (.tmp 57), none, 0, false⟩])
 (.seq (.cond (.tmp 59) .skip
 (.exit 0))
 (.seq (.block 1 (.seq (.region [⟨(some 60), .move (.tmp 58), none, 0, false⟩,
 ⟨(some 61), .indexAddr 64 (.tmp 56) (.tmp 58), none, 0, false⟩,
 ⟨(some 62), .loadN 64 (.tmp 61), none, 0, false⟩,
 ⟨(some 15), .alloc [(.int .u8 0), (.int .u8 0), (.int .u8 0), (.int .u8 0), (.int .u8 0), (.int .u8 0), (.int .u8 0), (.int .u8 0), (.int .u8 0), (.int .u8 0), (.int .u8 0), (.int .u8 0), (.int .u8 0), (.int .u8 0), (.int .u8 0), (.int .u8 0), (.int .u8 0), (.int .u8 0), (.int .u8 0), (.int .u8 0), (.int .u8 0), (.int .u8 0), (.int .u8 0), (.int .u8 0), (.int .u8 0), (.int .u8 0), (.int .u8 0), (.int .u8 0), (.int .u8 0), (.int .u8 0), (.int .u8 0), (.int .u8 0), (.int .u8 0), (.int .u8 0), (.int .u8 0), (.int .u8 0), (.int .u8 0), (.int .u8 0), (.int .u8 0), (.int .u8 0), (.int .u8 0), (.int .u8 0), (.int .u8 0), (.int .u8 0), (.int .u8 0), (.int .u8 0), (.int .u8 0), (.int .u8 0), (.int .u8 0), (.int .u8 0), (.int .u8 0), (.int .u8 0), (.int .u8 0), (.int .u8 0), (.int .u8 0), (.int .u8 0), (.int .u8 0), (.int .u8 0), (.int .u8 0), (.int .u8 0), (.int .u8 0), (.int .u8 0), (.int .u8 0), (.int .u8 0)] 262, none, 0, false⟩,
 ⟨(some 14), .move (.tmp 60), none, 0, false⟩,
 ⟨none, .store 64 (.tmp 15) (.tmp 62), none, 0, false⟩])
 (.seq (.draw [⟨(some 63), .move (.tmp 0), none, 0, false⟩,
 ⟨(some 64), .nilCheck (.tmp 63), none, 0, false⟩,
 ⟨(some 65), .fieldAddr 0 (.tmp 64), none, 0, false⟩,
 ⟨(some 66), .load1 (.tmp 65), none, 0, false⟩,
 ⟨(some 67), .move (.tmp 12), none, 0, false⟩,
 ⟨(some 68), .move (.tmp 10), none, 0, false⟩,
 ⟨(some 69), .bin .add (.tmp 67) (.tmp 68), none, 0, false⟩,
 ⟨(some 70), .move (.tmp 14), none, 0, false⟩,
 ⟨(some 71), .bin .add (.tmp 69) (.tmp 70), none, 0, false⟩,
 ⟨(some 72), .loadN 64 (.tmp 15), none, 0, false⟩,
 ⟨(some 73), .call (.func 171) [(.tmp 66), (.tmp 71), (.tmp 72)], none, 0, true⟩,
 ⟨(some 16), .move (.tmp 73), none, 1, false⟩])
 (.seq (.region [⟨(some 74), .move (.tmp 16), none, 0, false⟩,
 ⟨(some 75), .bin .neq (.tmp 74) (.const (.int .i64 0)), none, 0, false⟩])
 (.cond (.tmp 75) (.seq (.region [⟨(some 76), .move (.tmp 16), none, 0, false⟩,
 ⟨(some 4), .move (.const (.int .u64 0)), none, 0, false⟩,
 ⟨(some 5), .move (.tmp 76), none, 0, false⟩])
 .ret)
 .skip)))))
 (.region [⟨(some 77), .bin .add (.tmp 58) (.const (.int .i64 1)), none, 0, false⟩,
 ⟨(some 58), .move (.tmp 77), none, 0, false⟩])))))))
 (.seq (.region [⟨(some 78), .move (.tmp 0), none, 0, false⟩,
 ⟨(some 79), .move (.tmp 0), none, 0, false⟩,
 ⟨(some 80), .move (.tmp 9), none, 0, false⟩,
 ⟨(some 81), .move (.tmp 10), none, 0, false⟩,
 ⟨(some 82), .move (.tmp 7), none, 0, false⟩,
 ⟨(some 83), .len false (.tmp 82), none, 0, false⟩,
 ⟨(some 84), .bin .add (.tmp 81) (.tmp 83), none, 0, false⟩,
 ⟨(some 85), .nilCheck (.tmp 78), none, 0, false⟩,
 ⟨(some 86), .fieldAddr 4 (.tmp 85), none, 0, false⟩,
 ⟨none, .store 1 (.tmp 86) (.tmp 80), none, 0, false⟩,
 ⟨(some 87), .nilCheck (.tmp 79), none, 0, false⟩,
 ⟨(some 88), .fieldAddr 5 (.tmp 87), none, 0, false⟩,
 ⟨none, .store 1 (.tmp 88) (.tmp 84), none, 0, false⟩])
 (.seq (.region [⟨(some 89), .move (.tmp 0), none, 0, false⟩,
 ⟨(some 90), .nilCheck (.tmp 89), none, 0, false⟩,
 ⟨(some 91), .fieldAddr 2 (.tmp 90), none, 0, false⟩,
 ⟨(some 92), .load1 (.tmp 91), none, 0, false⟩,
 ⟨(some 93), .bin .add (.tmp 92) (.const (.int .u64 1)), none, 0, false⟩,
 ⟨(some 94), .nilCheck (.tmp 89), none, 0, false⟩,
 ⟨(some 95), .fieldAddr 2 (.tmp 94), none, 0, false⟩,
 ⟨none, .store 1 (.tmp 95) (.tmp 93), none, 0, false⟩])
 (.seq (.region [⟨(some 96), .fieldAddr 0 (.tmp 6), none, 0, false⟩,
 ⟨(some 97), .load1 (.tmp 96), none, 0, false⟩,
 ⟨(some 4), .move (.tmp 97), none, 0, false⟩,
 ⟨(some 5), .move (.const (.int .i64 0)), none, 0, false⟩])
 .ret)))))))))))⟩

def L123 : LFunc := ⟨8, [.tmp 2],
 (.seq (.region [⟨(some 2), .move (.const (.int .i64 0)), none, 0, false⟩])
 (.seq (.region [⟨(some 3), .move (.tmp 0), none, 0, false⟩,
 ⟨(some 4), .nilCheck (.tmp 3), none, 0, false⟩,
 ⟨(some 5), .fieldAddr 0 (.tmp 4), none, 0, false⟩,
 ⟨(some 6), .load1 (.tmp 5), none, 0, false⟩,
 ⟨(some 7), .call (.func 172) [(.tmp 6)], none, 0, false⟩,
 ⟨(some 2), .move (.tmp 7), none, 0, false⟩])
 .ret))⟩

def L124 : LFunc := ⟨8, [.tmp 2],
 (.seq (.region [⟨(some 2), .move (.const (.slice none 0 0)), none, 0, false⟩])
 (.seq (.seq (.region [⟨(some 3), .move (.tmp 0), none, 0, false⟩,
 ⟨(some 4), .eq false .slc (.tmp 3) (.const (.slice none 0 0)), none, 0, false⟩])
 (.cond (.tmp 4) (.seq (.region [⟨(some 2), .move (.const (.slice none 0 0)), none, 0, false⟩])
 .ret)
 .skip))
 (.seq (.region [⟨(some 5), .buildSlice 0 14 185 [] [], none, 0, false⟩,
 ⟨(some 6), .move (.tmp 0), none, 0, false⟩,
 ⟨(some 7), .append 14 88 185 [(.int .i64 0), (.int .u8 0), (.int .u8 0), (.int .u8 0), (.int .u8 0), (.int .i64 0), (.int .u64 0), (.int .u64 0), (.int .u64 0), (.int .u64 0), (.int .u64 0), (.int .u64 0), (.int .u64 0), (.int .u64 0)] false (.tmp 5) (.tmp 6), none, 0, false⟩,
 ⟨(some 2), .move (.tmp 7), none, 0, false⟩])
 .ret)))⟩

def L125 : LFunc := ⟨8, [.tmp 2],
 (.seq (.region [⟨(some 2), .move (.const (.slice none 0 0)), none, 0, false⟩])
 (.seq (.seq (.region [⟨(some 3), .move (.tmp 0), none, 0, false⟩,
 ⟨(some 4), .eq false .slc (.tmp 3) (.const (.slice none 0 0)), none, 0, false⟩])
 (.cond (.tmp 4) (.seq (.region [⟨(some 2), .move (.const (.slice none 0 0)), none, 0, false⟩])
 .ret)
 .skip))
 (.seq (.region [⟨(some 5), .buildSlice 0 1 3 [] [], none, 0, false⟩,
 ⟨(some 6), .move (.tmp 0), none, 0, false⟩,
 ⟨(some 7), .append 1 8 3 [(.int .i64 0)] false (.tmp 5) (.tmp 6), none, 0, false⟩,
 ⟨(some 2), .move (.tmp 7), none, 0, false⟩])
 .ret)))⟩

def L126 : LFunc := ⟨21, [.tmp 2, .tmp 3],
 (.seq (.region [⟨(some 2), .move (.const (.slice none 0 0)), none, 0, false⟩,
 ⟨(some 3), .move (.const (.bool false)), none, 0, false⟩])
 (.seq (.seq (.region [⟨(some 5), .move (.tmp 0), none, 0, false⟩,
 ⟨(some 6), .nilCheck (.tmp 5), none, 0, false⟩,
 ⟨(some 7), .fieldAddr 2 (.tmp 6), none, 0, false⟩,
 ⟨(some 8), .load1 (.tmp 7), none, 0, false⟩,
 ⟨(some 9), .bin .eql (.tmp 8) (.const (.int .i64 0)), none, 0, false⟩])
 (.cond (.tmp 9) (.seq (.region [⟨(some 4), .move (.const (.slice none 0 0)), none, 0, false⟩])
 (.seq (.region [⟨(some 10), .move (.tmp 4), none, 0, false⟩,
 ⟨(some 2), .move (.tmp 10), none, 0, false⟩,
 ⟨(some 3), .move (.const (.bool false)), none, 0, false⟩])
 .ret))
 .skip))
 (.seq (.draw [⟨(some 11), .move (.tmp 0), none, 0, false⟩,
 ⟨(some 12), .nilCheck (.tmp 11), none, 0, false⟩,
 ⟨(some 13), .fieldAddr 0 (.tmp 12), none, 0, false⟩,
 ⟨(some 14), .load1 (.tmp 13), none, 0, false⟩,
 ⟨(some 15), .move (.tmp 0), none, 0, false⟩,
 ⟨(some 16), .nilCheck (.tmp 15), none, 0, false⟩,
 ⟨(some 17), .fieldAddr 1 (.tmp 16), none, 0, false⟩,
 ⟨(some 18), .load1 (.tmp 17), none, 0, false⟩,
 ⟨(some 19), .indexAddr 1 (.tmp 14) (.tmp 18), none, 0, false⟩,
 ⟨(some 20), .load1 (.tmp 19), none, 0, false⟩,
 ⟨(some 2), .move (.tmp 20), none, 0, false⟩,
 ⟨(some 3), .move (.const (.bool true)), none, 0, false⟩])
 .ret)))⟩

def L127 : LFunc := ⟨41, [.tmp 4, .tmp 5],
 (.seq (.region [⟨(some 4), .move (.const (.pointer none)), none, 0, false⟩,
 ⟨(some 5), .move (.const (.bool false)), none, 0, false⟩])
 (.seq (.region [⟨(some 8), .move (.tmp 0), none, 0, false⟩,
 ⟨(some 9), .call (.func 173) [(.tmp 8)], none, 0, false⟩,
 ⟨(some 6), .move (.tmp 9), none, 0, false⟩])
 (.seq (.seq (.region [⟨(some 10), .move (.tmp 6), none, 0, false⟩,
 ⟨(some 11), .eq false .ptr (.tmp 10) (.const (.pointer none)), none, 0, false⟩])
 (.cond (.tmp 11) (.seq (.region [⟨(some 4), .move (.const (.pointer none)), none, 0, false⟩,
 ⟨(some 5), .move (.const (.bool false)), none, 0, false⟩])
 .ret)
 .skip))
 (.seq (.region [⟨(some 12), .move (.tmp 6), none, 0, false⟩,
 ⟨(some 13), .nilCheck (.tmp 12), none, 0, false⟩,
 ⟨(some 14), .fieldAddr 2 (.tmp 13), none, 0, false⟩,
 ⟨none, .store 1 (.tmp 14) (.const (.bool false)), none, 0, false⟩])
 (.seq (.region [⟨(some 15), .move (.tmp 0), none, 0, false⟩,
 ⟨(some 16), .nilCheck (.tmp 15), none, 0, false⟩,
 ⟨(some 17), .fieldAddr 1 (.tmp 16), none, 0, false⟩,
 ⟨(some 18), .load1 (.tmp 17), none, 0, false⟩,
 ⟨(some 19), .indexAddr 1 (.tmp 18) (.const (.int .i64 0)), none, 0, false⟩,
 ⟨(some 20), .load1 (.tmp 19), none, 0, false⟩,
 ⟨(some 7), .move (.tmp 20), none, 0, false⟩])
 (.seq (.region [⟨(some 21), .move (.tmp 0), none, 0, false⟩,
 ⟨(some 22), .move (.tmp 0), none, 0, false⟩,
 ⟨(some 23), .nilCheck (.tmp 22), none, 0, false⟩,
 ⟨(some 24), .fieldAddr 1 (.tmp 23), none, 0, false⟩,
 ⟨(some 25), .load1 (.tmp 24), none, 0, false⟩,
 ⟨(some 26), .call (.func 174) [(.tmp 25), (.const (.int .i64 0)), (.const (.int .i64 1))], none, 0, false⟩,
 ⟨(some 27), .nilCheck (.tmp 21), none, 0, false⟩,
 ⟨(some 28), .fieldAddr 1 (.tmp 27), none, 0, false⟩,
 ⟨none, .store 1 (.tmp 28) (.tmp 26), none, 0, false⟩])
 (.seq (.seq (.region [⟨(some 29), .move (.tmp 1), none, 0, false⟩])
 (.cond (.tmp 29) (.region [⟨(some 30), .move (.tmp 0), none, 0, false⟩,
 ⟨(some 31), .move (.tmp 0), none, 0, false⟩,
 ⟨(some 32), .nilCheck (.tmp 31), none, 0, false⟩,
 ⟨(some 33), .fieldAddr 1 (.tmp 32), none, 0, false⟩,
 ⟨(some 34), .load1 (.tmp 33), none, 0, false⟩,
 ⟨(some 35), .move (.tmp 7), none, 0, false⟩,
 ⟨(some 36), .buildSlice 1 1 3 [(.int .i64 0)] [(0, 1, (.tmp 35))], none, 0, false⟩,
 ⟨(some 37), .append 1 8 3 [(.int .i64 0)] false (.tmp 34) (.tmp 36), none, 0, false⟩,
 ⟨(some 38), .nilCheck (.tmp 30), none, 0, false⟩,
 ⟨(some 39), .fieldAddr 1 (.tmp 38), none, 0, false⟩,
 ⟨none, .store 1 (.tmp 39) (.tmp 37), none, 0, false⟩])
 .skip))
 (.seq (.region [⟨(some 40), .move (.tmp 6), none, 0, false⟩,
 ⟨(some 4), .move (.tmp 40), none, 0, false⟩,
 ⟨(some 5), .move (.const (.bool true)), none, 0, false⟩])
 .ret))))))))⟩

def L128 : LFunc := ⟨16, [.tmp 4],
 (.seq (.region [⟨(some 4), .move (.const (.bool false)), none, 0, false⟩])
 (.seq (.draw [⟨(some 5), .move (.tmp 1), none, 0, false⟩,
 ⟨(some 6), .move (.tmp 0), none, 0, false⟩,
 ⟨(some 7), .nilCheck (.tmp 6), none, 0, false⟩,
 ⟨(some 8), .fieldAddr 2 (.tmp 7), none, 0, false⟩,
 ⟨(some 9), .load1 (.tmp 8), none, 0, false⟩,
 ⟨(some 10), .move (.tmp 0), none, 0, false⟩,
 ⟨(some 11), .nilCheck (.tmp 10), none, 0, false⟩,
 ⟨(some 12), .fieldAddr 3 (.tmp 11), none, 0, false⟩,
 ⟨(some 13), .load1 (.tmp 12), none, 0, false⟩,
 ⟨(some 14), .bin .sub (.tmp 9) (.tmp 13), none, 0, false⟩,
 ⟨(some 15), .bin .leq (.tmp 5) (.tmp 14), none, 0, false⟩,
 ⟨(some 4), .move (.tmp 15), none, 0, false⟩])
 .ret))⟩

def L129 : LFunc := ⟨27, [.tmp 4],
 (.seq (.region [⟨(some 4), .move (.const (.bool false)), none, 0, false⟩])
 (.seq (.draw [⟨(some 6), .move (.tmp 0), none, 0, false⟩,
 ⟨(some 7), .nilCheck (.tmp 6), none, 0, false⟩,
 ⟨(some 8), .fieldAddr 0 (.tmp 7), none, 0, false⟩,
 ⟨(some 9), .load1 (.tmp 8), none, 0, false⟩,
 ⟨(some 10), .move (.tmp 0), none, 0, false⟩,
 ⟨(some 11), .nilCheck (.tmp 10), none, 0, false⟩,
 ⟨(some 12), .fieldAddr 3 (.tmp 11), none, 0, false⟩,
 ⟨(some 13), .load1 (.tmp 12), none, 0, false⟩,
 ⟨(some 14), .call (.func 175) [(.tmp 9), (.tmp 13)], none, 0, true⟩,
 ⟨(some 5), .move (.tmp 1), none, 0, false⟩,
 ⟨(some 15), .bin .leq (.tmp 5) (.tmp 14), none, 1, false⟩,
 ⟨(some 16), .move (.tmp 15), none, 1, false⟩,
 ⟨(some 17), .move (.tmp 0), (some (16, true)), 1, false⟩,
 ⟨(some 18), .nilCheck (.tmp 17), (some (16, true)), 1, false⟩,
 ⟨(some 19), .fieldAddr 3 (.tmp 18), (some (16, true)), 1, false⟩,
 ⟨(some 20), .load1 (.tmp 19), (some (16, true)), 1, false⟩,
 ⟨(some 21), .move (.tmp 0), (some (16, true)), 1, false⟩,
 ⟨(some 22), .nilCheck (.tmp 21), (some (16, true)), 1, false⟩,
 ⟨(some 23), .fieldAddr 0 (.tmp 22), (some (16, true)), 1, false⟩,
 ⟨(some 24), .load1 (.tmp 23), (some (16, true)), 1, false⟩,
 ⟨(some 25), .bin .leq (.tmp 20) (.tmp 24), (some (16, true)), 1, false⟩,
 ⟨(some 26), .pick (.tmp 16) (.tmp 25) (.const (.bool false)), none, 1, false⟩,
 ⟨(some 4), .move (.tmp 26), none, 1, false⟩])
 .ret))⟩

def L130 : LFunc := ⟨17, [.cellN 4 6],
 (.seq (.region [⟨(some 4), .alloc [(.int .i64 0), (.int .i64 0), (.slice none 0 0), (.slice none 0 0), (.int .u64 0), (.int .u64 0)] 159, none, 0, false⟩])
 (.seq (.draw [⟨(some 10), .move (.tmp 0), none, 0, false⟩,
 ⟨(some 11), .nilCheck (.tmp 10), none, 0, false⟩,
 ⟨(some 12), .fieldAddr 16 (.tmp 11), none, 0, false⟩,
 ⟨(some 13), .load1 (.tmp 12), none, 0, false⟩,
 ⟨(some 14), .move (.tmp 1), none, 0, false⟩,
 ⟨(some 15), .call (.func 176) [(.tmp 13), (.tmp 14)], none, 0, true⟩,
 ⟨(some 5), .move (.tmp 0), none, 0, false⟩,
 ⟨(some 6), .nilCheck (.tmp 5), none, 0, false⟩,
 ⟨(some 7), .fieldAddr 1 (.tmp 6), none, 0, false⟩,
 ⟨(some 8), .fieldAddr 0 (.tmp 7), none, 0, false⟩,
 ⟨(some 9), .load1 (.tmp 8), none, 0, false⟩,
 ⟨(some 16), .build [(.int .i64 0), (.int .i64 0), (.slice none 0 0), (.slice none 0 0), (.int .u64 0), (.int .u64 0)] [(0, 1, (.const (.int .i64 2))), (1, 1, (.tmp 9)), (4, 1, (.tmp 15))], none, 1, false⟩,
 ⟨none, .store 6 (.tmp 4) (.tmp 16), none, 1, true⟩])
 .ret))⟩

def L131 : LFunc := ⟨11, [.tmp 4],
 (.seq (.region [⟨(some 4), .move (.const (.bool false)), none, 0, false⟩])
 (.seq (.region [⟨(some 5), .move (.tmp 1), none, 0, false⟩,
 ⟨(some 6), .move (.tmp 0), none, 0, false⟩,
 ⟨(some 7), .nilCheck (.tmp 6), none, 0, false⟩,
 ⟨(some 8), .fieldAddr 2 (.tmp 7), none, 0, false⟩,
 ⟨(some 9), .load1 (.tmp 8), none, 0, false⟩,
 ⟨(some 10), .bin .leq (.tmp 5) (.tmp 9), none, 0, false⟩,
 ⟨(some 4), .move (.tmp 10), none, 0, false⟩])
 .ret))⟩

def L132 : LFunc := ⟨19, [.tmp 4],
 (.seq (.region [⟨(some 4), .move (.const (.bool false)), none, 0, false⟩])
 (.seq (.region [⟨(some 6), .move (.tmp 0), none, 0, false⟩,
 ⟨(some 7), .move (.tmp 1), none, 0, false⟩,
 ⟨(some 8), .call (.func 131) [(.tmp 6), (.tmp 7)], none, 0, false⟩,
 ⟨(some 5), .move (.tmp 8), none, 0, false⟩])
 (.seq (.seq (.region [⟨(some 9), .move (.tmp 5), none, 0, false⟩])
 (.cond (.tmp 9) (.region [⟨(some 10), .move (.tmp 0), none, 0, false⟩,
 ⟨(some 11), .nilCheck (.tmp 10), none, 0, false⟩,
 ⟨(some 12), .fieldAddr 2 (.tmp 11), none, 0, false⟩,
 ⟨(some 13), .load1 (.tmp 12), none, 0, false⟩,
 ⟨(some 14), .move (.tmp 1), none, 0, false⟩,
 ⟨(some 15), .bin .sub (.tmp 13) (.tmp 14), none, 0, false⟩,
 ⟨(some 16), .nilCheck (.tmp 10), none, 0, false⟩,
 ⟨(some 17), .fieldAddr 2 (.tmp 16), none, 0, false⟩,
 ⟨none, .store 1 (.tmp 17) (.tmp 15), none, 0, false⟩])
 .skip))
 (.seq (.region [⟨(some 18), .move (.tmp 5), none, 0, false⟩,
 ⟨(some 4), .move (.tmp 18), none, 0, false⟩])
 .ret))))⟩

def L133 : LFunc := ⟨53, [.tmp 6],
 (.seq (.region [⟨(some 6), .move (.const (.int .i64 0)), none, 0, false⟩])
 (.seq (.seq (.region [⟨(some 10), .move (.tmp 1), none, 0, false⟩,
 ⟨(some 11), .nilCheck (.tmp 10), none, 0, false⟩,
 ⟨(some 12), .fieldAddr 16 (.tmp 11), none, 0, false⟩,
 ⟨(some 13), .load1 (.tmp 12), none, 0, false⟩,
 ⟨(some 14), .move (.tmp 2), none, 0, false⟩,
 ⟨(some 15), .call (.func 128) [(.tmp 13), (.tmp 14)], none, 0, false⟩,
 ⟨(some 16), .un .not (.tmp 15), none, 0, false⟩])
 (.cond (.tmp 16) (.seq (.region [⟨(some 17), .move (.tmp 1), none, 0, false⟩,
 ⟨(some 18), .move (.tmp 2), none, 0, false⟩,
 ⟨(some 19), .call (.func 130) [(.tmp 17), (.tmp 18)], none, 0, false⟩,
 ⟨(some 7), .alloc [(.int .i64 0), (.int .i64 0), (.slice none 0 0), (.slice none 0 0), (.int .u64 0), (.int .u64 0)] 159, none, 0, false⟩,
 ⟨none, .store 6 (.tmp 7) (.tmp 19), none, 0, false⟩])
 (.seq (.seq (.draw [⟨(some 20), .move (.tmp 0), none, 0, false⟩,
 ⟨(some 21), .nilCheck (.tmp 20), none, 0, false⟩,
 ⟨(some 22), .fieldAddr 4 (.tmp 21), none, 0, false⟩,
 ⟨(some 23), .load1 (.tmp 22), none, 0, false⟩,
 ⟨(some 24), .loadN 6 (.tmp 7), none, 0, false⟩,
 ⟨(some 25), .call (.func 78) [(.tmp 23), (.tmp 24)], none, 0, true⟩,
 ⟨(some 8), .move (.tmp 25), none, 1, false⟩])
 (.seq (.region [⟨(some 26), .move (.tmp 8), none, 0, false⟩,
 ⟨(some 27), .bin .neq (.tmp 26) (.const (.int .i64 0)), none, 0, false⟩])
 (.cond (.tmp 27) (.seq (.region [⟨(some 28), .move (.tmp 0), none, 0, false⟩,
 ⟨(some 29), .move (.tmp 8), none, 0, false⟩,
 ⟨(some 30), .call (.func 80) [(.tmp 28), (.tmp 29)], none, 0, false⟩,
 ⟨(some 6), .move (.tmp 30), none, 0, false⟩])
 .ret)
 .skip)))
 (.seq (.draw [⟨(some 31), .move (.tmp 1), none, 0, false⟩,
 ⟨(some 32), .nilCheck (.tmp 31), none, 0, false⟩,
 ⟨(some 33), .fieldAddr 16 (.tmp 32), none, 0, false⟩,
 ⟨(some 34), .load1 (.tmp 33), none, 0, false⟩,
 ⟨(some 35), .fieldAddr 4 (.tmp 7), none, 0, false⟩,
 ⟨(some 36), .load1 (.tmp 35), none, 0, false⟩,
 ⟨(some 37), .call (.func 177) [(.tmp 34), (.tmp 36)], none, 0, true⟩,
 ⟨(some 9), .move (.tmp 37), none, 1, false⟩])
 (.seq (.region [⟨(some 38), .move (.tmp 9), none, 0, false⟩,
 ⟨(some 39), .bin .neq (.tmp 38) (.const (.int .i64 0)), none, 0, false⟩])
 (.cond (.tmp 39) (.seq (.region [⟨(some 40), .move (.tmp 9), none, 0, false⟩,
 ⟨(some 6), .move (.tmp 40), none, 0, false⟩])
 .ret)
 .skip)))))
 .skip))
 (.seq (.region [⟨(some 41), .move (.tmp 1), none, 0, false⟩,
 ⟨(some 42), .nilCheck (.tmp 41), none, 0, false⟩,
 ⟨(some 43), .fieldAddr 16 (.tmp 42), none, 0, false⟩,
 ⟨(some 44), .load1 (.tmp 43), none, 0, false⟩,
 ⟨(some 45), .move (.tmp 2), none, 0, false⟩,
 ⟨(some 46), .call (.func 178) [(.tmp 44), (.tmp 45)], none, 0, false⟩])
 (.seq (.region [⟨(some 47), .move (.tmp 1), none, 0, false⟩,
 ⟨(some 48), .nilCheck (.tmp 47), none, 0, false⟩,
 ⟨(some 49), .fieldAddr 14 (.tmp 48), none, 0, false⟩,
 ⟨(some 50), .load1 (.tmp 49), none, 0, false⟩,
 ⟨(some 51), .move (.tmp 2), none, 0, false⟩,
 ⟨(some 52), .call (.func 132) [(.tmp 50), (.tmp 51)], none, 0, false⟩])
 (.seq (.region [⟨(some 6), .move (.const (.int .i64 0)), none, 0, false⟩])
 .ret)))))⟩

def L134 : LFunc := ⟨24, [.tmp 2, .tmp 3],
 (.seq (.region [⟨(some 2), .move (.const (.slice none 0 0)), none, 0, false⟩,
 ⟨(some 3), .move (.const (.bool false)), none, 0, false⟩])
 (.seq (.region [⟨(some 7), .move (.tmp 0), none, 0, false⟩,
 ⟨(some 8), .nilCheck (.tmp 7), none, 0, false⟩,
 ⟨(some 9), .fieldAddr 0 (.tmp 8), none, 0, false⟩,
 ⟨(some 10), .call (.func 179) [(.tmp 9)], none, 0, false⟩,
 ⟨(some 6), .move (.tmp 10), none, 0, false⟩,
 ⟨(some 11), .extract (.tmp 6) 0, none, 0, false⟩,
 ⟨(some 12), .extract (.tmp 6) 1, none, 0, false⟩,
 ⟨(some 4), .move (.tmp 11), none, 0, false⟩,
 ⟨(some 5), .move (.tmp 12), none, 0, false⟩])
 (.seq (.region [⟨(some 13), .move (.tmp 0), none, 0, false⟩,
 ⟨(some 14), .nilCheck (.tmp 13), none, 0, false⟩,
 ⟨(some 15), .fieldAddr 3 (.tmp 14), none, 0, false⟩,
 ⟨(some 16), .load1 (.tmp 15), none, 0, false⟩,
 ⟨(some 17), .move (.tmp 4), none, 0, false⟩,
 ⟨(some 18), .len false (.tmp 17), none, 0, false⟩,
 ⟨(some 19), .bin .sub (.tmp 16) (.tmp 18), none, 0, false⟩,
 ⟨(some 20), .nilCheck (.tmp 13), none, 0, false⟩,
 ⟨(some 21), .fieldAddr 3 (.tmp 20), none, 0, false⟩,
 ⟨none, .store 1 (.tmp 21) (.tmp 19), none, 0, false⟩])
 (.seq (.region [⟨(some 22), .move (.tmp 4), none, 0, false⟩,
 ⟨(some 23), .move (.tmp 5), none, 0, false⟩,
 ⟨(some 2), .move (.tmp 22), none, 0, false⟩,
 ⟨(some 3), .move (.tmp 23), none, 0, false⟩])
 .ret))))⟩

def L135 : LFunc := ⟨26, [.tmp 4],
 (.seq (.region [⟨(some 4), .move (.const (.bool false)), none, 0, false⟩])
 (.seq (.region [⟨(some 6), .move (.tmp 0), none, 0, false⟩,
 ⟨(some 7), .call (.func 173) [(.tmp 6)], none, 0, false⟩,
 ⟨(some 5), .move (.tmp 7), none, 0, false⟩])
 (.seq (.seq (.region [⟨(some 8), .move (.tmp 5), none, 0, false⟩,
 ⟨(some 9), .eq false .ptr (.tmp 8) (.const (.pointer none)), none, 0, false⟩,
 ⟨(some 10), .move (.tmp 9), none, 0, false⟩,
 ⟨(some 11), .move (.tmp 1), (some (10, false)), 0, false⟩,
 ⟨(some 12), .move (.tmp 5), (some (10, false)), 0, false⟩,
 ⟨(some 13), .nilCheck (.tmp 12), (some (10, false)), 0, false⟩,
 ⟨(some 14), .fieldAddr 1 (.tmp 13), (some (10, false)), 0, false⟩,
 ⟨(some 15), .load1 (.tmp 14), (some (10, false)), 0, false⟩,
 ⟨(some 16), .bin .gtr (.tmp 11) (.tmp 15), (some (10, false)), 0, false⟩,
 ⟨(some 17), .pick (.tmp 10) (.const (.bool true)) (.tmp 16), none, 0, false⟩])
 (.cond (.tmp 17) (.seq (.region [⟨(some 4), .move (.const (.bool false)), none, 0, false⟩])
 .ret)
 .skip))
 (.seq (.region [⟨(some 18), .move (.tmp 5), none, 0, false⟩,
 ⟨(some 19), .nilCheck (.tmp 18), none, 0, false⟩,
 ⟨(some 20), .fieldAddr 1 (.tmp 19), none, 0, false⟩,
 ⟨(some 21), .load1 (.tmp 20), none, 0, false⟩,
 ⟨(some 22), .move (.tmp 1), none, 0, false⟩,
 ⟨(some 23), .bin .sub (.tmp 21) (.tmp 22), none, 0, false⟩,
 ⟨(some 24), .nilCheck (.tmp 18), none, 0, false⟩,
 ⟨(some 25), .fieldAddr 1 (.tmp 24), none, 0, false⟩,
 ⟨none, .store 1 (.tmp 25) (.tmp 23), none, 0, false⟩])
 (.seq (.region [⟨(some 4), .move (.const (.bool true)), none, 0, false⟩])
 .ret)))))⟩

def L136 : LFunc := ⟨15, [.tmp 2],
 (.seq (.region [⟨(some 2), .move (.const (.bool false)), none, 0, false⟩])
 (.seq (.region [⟨(some 6), .move (.tmp 0), none, 0, false⟩,
 ⟨(some 7), .call (.func 127) [(.tmp 6), (.const (.bool false))], none, 0, false⟩,
 ⟨(some 5), .move (.tmp 7), none, 0, false⟩,
 ⟨(some 8), .extract (.tmp 5) 0, none, 0, false⟩,
 ⟨(some 9), .extract (.tmp 5) 1, none, 0, false⟩,
 ⟨(some 3), .move (.tmp 8), none, 0, false⟩,
 ⟨(some 4), .move (.tmp 9), none, 0, false⟩])
 (.seq (.seq (.region [⟨(some 10), .move (.tmp 4), none, 0, false⟩])
 (.cond (.tmp 10) (.region [⟨(some 11), .move (.tmp 3), none, 0, false⟩,
 ⟨(some 12), .nilCheck (.tmp 11), none, 0, false⟩,
 ⟨(some 13), .fieldAddr 1 (.tmp 12), none, 0, false⟩,
 ⟨none, .store 1 (.tmp 13) (.const (.int .u64 0)), none, 0, false⟩])
 .skip))
 (.seq (.region [⟨(some 14), .move (.tmp 4), none, 0, false⟩,
 ⟨(some 2), .move (.tmp 14), none, 0, false⟩])
 .ret))))⟩

def L137 : LFunc := ⟨21, [.tmp 4],
 (.seq (.region [⟨(some 3), .box 14 228 (.tmp 1), none, 0, false⟩,
 ⟨(some 4), .move (.const (.int .i64 0)), none, 0, false⟩])
 (.seq (.seq (.region [⟨(some 5), .move (.tmp 0), none, 0, false⟩,
 ⟨(some 6), .nilCheck (.tmp 5), none, 0, false⟩,
 ⟨(some 7), .fieldAddr 0 (.tmp 6), none, 0, false⟩,
 ⟨(some 8), .load1 (.tmp 7), none, 0, false⟩,
 ⟨(some 9), .len false (.tmp 8), none, 0, false⟩,
 ⟨(some 10), .bin .geq (.tmp 9) (.const (.int .i64 64)), none, 0, false⟩])
 (.cond (.tmp 10) (.seq (.region [⟨(some 4), .move (.const (.int .i64 161)), none, 0, false⟩])
 .ret)
 .skip))
 (.seq (.draw [⟨(some 12), .move (.tmp 0), none, 0, false⟩,
 ⟨(some 13), .nilCheck (.tmp 12), none, 0, false⟩,
 ⟨(some 14), .fieldAddr 0 (.tmp 13), none, 0, false⟩,
 ⟨(some 15), .load1 (.tmp 14), none, 0, false⟩,
 ⟨(some 16), .loadN 14 (.tmp 3), none, 0, false⟩,
 ⟨(some 17), .buildSlice 1 14 228 [(.int .i64 0), (.int .u8 0), (.int .u8 0), (.int .u8 0), (.int .u8 0), (.int .i64 0), (.int .u64 0), (.int .u64 0), (.int .u64 0), (.int .u64 0), (.int .u64 0), (.int .u64 0), (.int .u64 0), (.bool false)] [(0, 14, (.tmp 16))], none, 0, false⟩,
 ⟨(some 18), .append 14 88 228 [(.int .i64 0), (.int .u8 0), (.int .u8 0), (.int .u8 0), (.int .u8 0), (.int .i64 0), (.int .u64 0), (.int .u64 0), (.int .u64 0), (.int .u64 0), (.int .u64 0), (.int .u64 0), (.int .u64 0), (.bool false)] false (.tmp 15) (.tmp 17), none, 0, true⟩,
 ⟨(some 11), .move (.tmp 0), none, 0, false⟩,
 ⟨(some 19), .nilCheck (.tmp 11), none, 1, false⟩,
 ⟨(some 20), .fieldAddr 0 (.tmp 19), none, 1, false⟩,
 ⟨none, .store 1 (.tmp 20) (.tmp 18), none, 1, true⟩])
 (.seq (.region [⟨(some 4), .move (.const (.int .i64 0)), none, 0, false⟩])
 .ret))))⟩

def L138 : LFunc := ⟨43, [.tmp 2],
 (.seq (.region [⟨(some 2), .move (.const (.int .i64 0)), none, 0, false⟩])
 (.seq (.region [⟨(some 8), .move (.tmp 0), none, 0, false⟩,
 ⟨(some 9), .nilCheck (.tmp 8), none, 0, false⟩,
 ⟨(some 10), .fieldAddr 0 (.tmp 9), none, 0, false⟩,
 ⟨(some 11), .load1 (.tmp 10), none, 0, false⟩,
 ⟨(some 12), .call (.func 107) [(.tmp 11)], none, 0, false⟩,
 ⟨(some 13), .call (.func 106) [(.tmp 12)], none, 0, false⟩,
 ⟨(some 7), .move (.tmp 13), none, 0, false⟩,
 ⟨(some 14), .extract (.tmp 7) 0, none, 0, false⟩,
 ⟨(some 15), .extract (.tmp 7) 1, none, 0, false⟩,
 ⟨(some 3), .move (.tmp 14), none, 0, false⟩,
 ⟨(some 4), .move (.tmp 15), none, 0, false⟩])
 (.seq (.draw [⟨(some 17), .move (.tmp 0), none, 0, false⟩,
 ⟨(some 18), .nilCheck (.tmp 17), none, 0, false⟩,
 ⟨(some 19), .fieldAddr 0 (.tmp 18), none, 0, false⟩,
 ⟨(some 20), .load1 (.tmp 19), none, 0, false⟩,
 ⟨(some 21), .call (.func 107) [(.tmp 20)], none, 0, true⟩,
 ⟨(some 22), .move (.tmp 0), none, 0, false⟩,
 ⟨(some 23), .nilCheck (.tmp 22), none, 0, false⟩,
 ⟨(some 24), .fieldAddr 3 (.tmp 23), none, 0, false⟩,
 ⟨(some 25), .load1 (.tmp 24), none, 0, false⟩,
 ⟨(some 26), .move (.tmp 0), none, 0, false⟩,
 ⟨(some 27), .nilCheck (.tmp 26), none, 0, false⟩,
 ⟨(some 28), .fieldAddr 4 (.tmp 27), none, 0, false⟩,
 ⟨(some 29), .load1 (.tmp 28), none, 0, false⟩,
 ⟨(some 30), .call (.func 180) [(.tmp 21), (.tmp 25), (.tmp 29)], none, 1, true⟩,
 ⟨(some 16), .move (.tmp 30), none, 2, false⟩,
 ⟨(some 31), .extract (.tmp 16) 0, none, 2, false⟩,
 ⟨(some 32), .extract (.tmp 16) 1, none, 2, false⟩,
 ⟨(some 5), .move (.tmp 31), none, 2, false⟩,
 ⟨(some 6), .move (.tmp 32), none, 2, false⟩])
 (.seq (.region [⟨(some 33), .move (.tmp 3), none, 0, false⟩,
 ⟨(some 34), .move (.tmp 5), none, 0, false⟩,
 ⟨(some 35), .bin .sub (.tmp 33) (.tmp 34), none, 0, false⟩,
 ⟨(some 36), .bin .mul (.tmp 35) (.const (.int .i64 16)), none, 0, false⟩,
 ⟨(some 37), .bin .add (.tmp 36) (.const (.int .i64 16)), none, 0, false⟩,
 ⟨(some 38), .move (.tmp 0), none, 0, false⟩,
 ⟨(some 39), .nilCheck (.tmp 38), none, 0, false⟩,
 ⟨(some 40), .fieldAddr 5 (.tmp 39), none, 0, false⟩,
 ⟨(some 41), .load1 (.tmp 40), none, 0, false⟩,
 ⟨(some 42), .bin .sub (.tmp 37) (.tmp 41), none, 0, false⟩,
 ⟨(some 2), .move (.tmp 42), none, 0, false⟩])
 .ret))))⟩

end Go.Proofs.YteoibgeimmaejaaGreat.LN
