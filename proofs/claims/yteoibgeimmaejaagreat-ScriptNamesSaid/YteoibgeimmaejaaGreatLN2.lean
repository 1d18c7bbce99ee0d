/- THE COMPILED FORMS of functions of the program, written by a program of ours; proved to be what the compiler gives. -/
import Derived.Test.YteoibgeimmaejaaGreatFa
namespace Go.Proofs.YteoibgeimmaejaaGreat.LN
open Go Go.L1
set_option maxRecDepth 100000
def L250 : LFunc := ⟨71, [.cellN 4 6, .tmp 5],
 (.seq (.region [⟨(some 3), .box 3 255 (.tmp 1), none, 0, false⟩,
 ⟨(some 4), .alloc [(.int .u64 0), (.int .u32 0), (.int .u64 0), (.int .i64 0), (.int .u64 0), (.slice none 0 0)] 181, none, 0, false⟩,
 ⟨(some 5), .move (.const (.bool false)), none, 0, false⟩])
 (.seq (.region [⟨(some 16), .fieldAddr 2 (.tmp 3), none, 0, false⟩,
 ⟨(some 17), .load1 (.tmp 16), none, 0, false⟩,
 ⟨(some 18), .call (.func 59) [(.tmp 17)], none, 0, false⟩,
 ⟨(some 15), .move (.tmp 18), none, 0, false⟩,
 ⟨(some 19), .extract (.tmp 15) 0, none, 0, false⟩,
 ⟨(some 20), .extract (.tmp 15) 1, none, 0, false⟩,
 ⟨(some 21), .extract (.tmp 15) 2, none, 0, false⟩,
 ⟨(some 6), .move (.tmp 19), none, 0, false⟩,
 ⟨(some 7), .move (.tmp 20), none, 0, false⟩,
 ⟨(some 8), .move (.tmp 21), none, 0, false⟩])
 (.seq (.seq (.region [⟨(some 22), .move (.tmp 8), none, 0, false⟩,
 ⟨(some 23), .bin .neq (.tmp 22) (.const (.int .i64 0)), none, 0, false⟩])
 (.cond (.tmp 23) (.seq (.region [⟨(some 24), .build [(.int .u64 0), (.int .u32 0), (.int .u64 0), (.int .i64 0), (.int .u64 0), (.slice none 0 0)] [], none, 0, false⟩,
 ⟨none, .store 6 (.tmp 4) (.tmp 24), none, 0, false⟩,
 ⟨(some 5), .move (.const (.bool false)), none, 0, false⟩])
 .ret)
 .skip))
 (.seq (.region [⟨(some 26), .fieldAddr 2 (.tmp 3), none, 0, false⟩,
 ⟨(some 27), .load1 (.tmp 26), none, 0, false⟩,
 ⟨(some 28), .move (.tmp 7), none, 0, false⟩,
 ⟨(some 29), .slice 1 (.tmp 27) (some (.tmp 28)) none none, none, 0, false⟩,
 ⟨(some 30), .call (.func 59) [(.tmp 29)], none, 0, false⟩,
 ⟨(some 25), .move (.tmp 30), none, 0, false⟩,
 ⟨(some 31), .extract (.tmp 25) 0, none, 0, false⟩,
 ⟨(some 32), .extract (.tmp 25) 1, none, 0, false⟩,
 ⟨(some 33), .extract (.tmp 25) 2, none, 0, false⟩,
 ⟨(some 9), .move (.tmp 31), none, 0, false⟩,
 ⟨(some 10), .move (.tmp 32), none, 0, false⟩,
 ⟨(some 8), .move (.tmp 33), none, 0, false⟩])
 (.seq (.seq (.region [⟨(some 34), .move (.tmp 8), none, 0, false⟩,
 ⟨(some 35), .bin .neq (.tmp 34) (.const (.int .i64 0)), none, 0, false⟩])
 (.cond (.tmp 35) (.seq (.region [⟨(some 36), .build [(.int .u64 0), (.int .u32 0), (.int .u64 0), (.int .i64 0), (.int .u64 0), (.slice none 0 0)] [], none, 0, false⟩,
 ⟨none, .store 6 (.tmp 4) (.tmp 36), none, 0, false⟩,
 ⟨(some 5), .move (.const (.bool false)), none, 0, false⟩])
 .ret)
 .skip))
 (.seq (.region [⟨(some 38), .move (.tmp 9), none, 0, false⟩,
 ⟨(some 39), .call (.func 60) [(.tmp 38)], none, 0, false⟩,
 ⟨(some 37), .move (.tmp 39), none, 0, false⟩,
 ⟨(some 40), .extract (.tmp 37) 0, none, 0, false⟩,
 ⟨(some 41), .extract (.tmp 37) 1, none, 0, false⟩,
 ⟨(some 11), .move (.tmp 40), none, 0, false⟩,
 ⟨(some 12), .move (.tmp 41), none, 0, false⟩])
 (.seq (.region [⟨(some 43), .fieldAddr 2 (.tmp 3), none, 0, false⟩,
 ⟨(some 44), .load1 (.tmp 43), none, 0, false⟩,
 ⟨(some 45), .move (.tmp 7), none, 0, false⟩,
 ⟨(some 46), .move (.tmp 10), none, 0, false⟩,
 ⟨(some 47), .bin .add (.tmp 45) (.tmp 46), none, 0, false⟩,
 ⟨(some 48), .slice 1 (.tmp 44) (some (.tmp 47)) none none, none, 0, false⟩,
 ⟨(some 49), .call (.func 276) [(.tmp 48)], none, 0, false⟩,
 ⟨(some 42), .move (.tmp 49), none, 0, false⟩,
 ⟨(some 50), .extract (.tmp 42) 0, none, 0, false⟩,
 ⟨(some 51), .extract (.tmp 42) 1, none, 0, false⟩,
 ⟨(some 13), .alloc [(.int .u64 0), (.slice none 0 0)] 154, none, 0, false⟩,
 ⟨none, .store 2 (.tmp 13) (.tmp 50), none, 0, false⟩,
 ⟨(some 8), .move (.tmp 51), none, 0, false⟩])
 (.seq (.region [⟨(some 52), .fieldAddr 0 (.tmp 3), none, 0, false⟩,
 ⟨(some 53), .load1 (.tmp 52), none, 0, false⟩,
 ⟨(some 54), .fieldAddr 1 (.tmp 3), none, 0, false⟩,
 ⟨(some 55), .load1 (.tmp 54), none, 0, false⟩,
 ⟨(some 56), .move (.tmp 6), none, 0, false⟩,
 ⟨(some 57), .move (.tmp 11), none, 0, false⟩,
 ⟨(some 58), .loadN 2 (.tmp 13), none, 0, false⟩,
 ⟨(some 59), .build [(.int .u64 0), (.int .u32 0), (.int .u64 0), (.int .i64 0), (.int .u64 0), (.slice none 0 0)] [(0, 1, (.tmp 53)), (1, 1, (.tmp 55)), (2, 1, (.tmp 56)), (3, 1, (.tmp 57)), (4, 2, (.tmp 58))], none, 0, false⟩,
 ⟨(some 14), .alloc [(.int .u64 0), (.int .u32 0), (.int .u64 0), (.int .i64 0), (.int .u64 0), (.slice none 0 0)] 181, none, 0, false⟩,
 ⟨none, .store 6 (.tmp 14) (.tmp 59), none, 0, false⟩])
 (.seq (.draw [⟨(some 61), .move (.tmp 12), none, 0, false⟩,
 ⟨(some 62), .move (.tmp 61), none, 0, false⟩,
 ⟨(some 63), .move (.tmp 8), (some (62, true)), 0, false⟩,
 ⟨(some 64), .bin .eql (.tmp 63) (.const (.int .i64 0)), (some (62, true)), 0, false⟩,
 ⟨(some 65), .pick (.tmp 62) (.tmp 64) (.const (.bool false)), none, 0, false⟩,
 ⟨(some 66), .move (.tmp 65), none, 0, false⟩,
 ⟨(some 67), .move (.tmp 0), (some (66, true)), 0, false⟩,
 ⟨(some 68), .loadN 6 (.tmp 14), (some (66, true)), 0, false⟩,
 ⟨(some 69), .call (.func 234) [(.tmp 67), (.tmp 68)], (some (66, true)), 0, true⟩,
 ⟨(some 60), .loadN 6 (.tmp 14), none, 0, false⟩,
 ⟨none, .store 6 (.tmp 4) (.tmp 60), none, 1, true⟩,
 ⟨(some 70), .pick (.tmp 66) (.tmp 69) (.const (.bool false)), none, 1, false⟩,
 ⟨(some 5), .move (.tmp 70), none, 2, false⟩])
 .ret)))))))))⟩

def L251 : LFunc := ⟨76, [.cellN 6 3, .tmp 7],
 (.seq (.region [⟨(some 6), .alloc [(.int .u64 0), (.int .u32 0), (.slice none 0 0)] 255, none, 0, false⟩,
 ⟨(some 7), .move (.const (.int .i64 0)), none, 0, false⟩])
 (.seq (.region [⟨(some 18), .move (.tmp 0), none, 0, false⟩,
 ⟨(some 19), .nilCheck (.tmp 18), none, 0, false⟩,
 ⟨(some 20), .fieldAddr 0 (.tmp 19), none, 0, false⟩,
 ⟨(some 21), .load1 (.tmp 20), none, 0, false⟩,
 ⟨(some 22), .call (.func 107) [(.tmp 21)], none, 0, false⟩,
 ⟨(some 23), .move (.tmp 1), none, 0, false⟩,
 ⟨(some 24), .call (.func 170) [(.tmp 22), (.tmp 23)], none, 0, false⟩,
 ⟨(some 17), .move (.tmp 24), none, 0, false⟩,
 ⟨(some 25), .extract (.tmp 17) 0, none, 0, false⟩,
 ⟨(some 26), .extract (.tmp 17) 1, none, 0, false⟩,
 ⟨(some 8), .move (.tmp 25), none, 0, false⟩,
 ⟨(some 9), .move (.tmp 26), none, 0, false⟩])
 (.seq (.region [⟨(some 10), .move (.const (.slice none 0 0)), none, 0, false⟩])
 (.seq (.seq (.region [⟨(some 27), .move (.tmp 2), none, 0, false⟩,
 ⟨(some 11), .move (.tmp 27), none, 0, false⟩])
 (.block 0 (.loop (.seq (.seq (.region [⟨(some 28), .move (.tmp 11), none, 0, false⟩,
 ⟨(some 29), .bin .lss (.tmp 28) (.const (.int .i64 16)), none, 0, false⟩])
 (.cond (.tmp 29) .skip
 (.exit 0)))
 (.seq (.block 1 (.seq (.region [⟨(some 33), .move (.tmp 0), none, 0, false⟩,
 ⟨(some 34), .nilCheck (.tmp 33), none, 0, false⟩,
 ⟨(some 35), .fieldAddr 0 (.tmp 34), none, 0, false⟩,
 ⟨(some 36), .load1 (.tmp 35), none, 0, false⟩,
 ⟨(some 37), .move (.tmp 8), none, 0, false⟩,
 ⟨(some 38), .move (.tmp 11), none, 0, false⟩,
 ⟨(some 39), .bin .add (.tmp 37) (.tmp 38), none, 0, false⟩,
 ⟨(some 40), .call (.func 248) [(.tmp 36), (.tmp 39)], none, 0, false⟩,
 ⟨(some 32), .move (.tmp 40), none, 0, false⟩,
 ⟨(some 41), .extract (.tmp 32) 0, none, 0, false⟩,
 ⟨(some 42), .extract (.tmp 32) 1, none, 0, false⟩,
 ⟨(some 12), .alloc [(.int .u8 0), (.int .u8 0), (.int .u8 0), (.int .u8 0), (.int .u8 0), (.int .u8 0), (.int .u8 0), (.int .u8 0), (.int .u8 0), (.int .u8 0), (.int .u8 0), (.int .u8 0), (.int .u8 0), (.int .u8 0), (.int .u8 0), (.int .u8 0), (.int .u8 0), (.int .u8 0), (.int .u8 0), (.int .u8 0), (.int .u8 0), (.int .u8 0), (.int .u8 0), (.int .u8 0), (.int .u8 0), (.int .u8 0), (.int .u8 0), (.int .u8 0), (.int .u8 0), (.int .u8 0), (.int .u8 0), (.int .u8 0), (.int .u8 0), (.int .u8 0), (.int .u8 0), (.int .u8 0), (.int .u8 0), (.int .u8 0), (.int .u8 0), (.int .u8 0), (.int .u8 0), (.int .u8 0), (.int .u8 0), (.int .u8 0), (.int .u8 0), (.int .u8 0), (.int .u8 0), (.int .u8 0), (.int .u8 0), (.int .u8 0), (.int .u8 0), (.int .u8 0), (.int .u8 0), (.int .u8 0), (.int .u8 0), (.int .u8 0), (.int .u8 0), (.int .u8 0), (.int .u8 0), (.int .u8 0), (.int .u8 0), (.int .u8 0), (.int .u8 0), (.int .u8 0)] 262, none, 0, false⟩,
 ⟨none, .store 64 (.tmp 12) (.tmp 41), none, 0, false⟩,
 ⟨(some 13), .move (.tmp 42), none, 0, false⟩])
 (.region [⟨(some 43), .move (.tmp 10), none, 0, false⟩,
 ⟨(some 44), .loadN 64 (.tmp 12), none, 0, false⟩,
 ⟨(some 45), .buildSlice 1 64 262 [(.int .u8 0), (.int .u8 0), (.int .u8 0), (.int .u8 0), (.int .u8 0), (.int .u8 0), (.int .u8 0), (.int .u8 0), (.int .u8 0), (.int .u8 0), (.int .u8 0), (.int .u8 0), (.int .u8 0), (.int .u8 0), (.int .u8 0), (.int .u8 0), (.int .u8 0), (.int .u8 0), (.int .u8 0), (.int .u8 0), (.int .u8 0), (.int .u8 0), (.int .u8 0), (.int .u8 0), (.int .u8 0), (.int .u8 0), (.int .u8 0), (.int .u8 0), (.int .u8 0), (.int .u8 0), (.int .u8 0), (.int .u8 0), (.int .u8 0), (.int .u8 0), (.int .u8 0), (.int .u8 0), (.int .u8 0), (.int .u8 0), (.int .u8 0), (.int .u8 0), (.int .u8 0), (.int .u8 0), (.int .u8 0), (.int .u8 0), (.int .u8 0), (.int .u8 0), (.int .u8 0), (.int .u8 0), (.int .u8 0), (.int .u8 0), (.int .u8 0), (.int .u8 0), (.int .u8 0), (.int .u8 0), (.int .u8 0), (.int .u8 0), (.int .u8 0), (.int .u8 0), (.int .u8 0), (.int .u8 0), (.int .u8 0), (.int .u8 0), (.int .u8 0), (.int .u8 0)] [(0, 64, (.tmp 44))], none, 0, false⟩,
 ⟨(some 46), .append 64 64 262 [(.int .u8 0), (.int .u8 0), (.int .u8 0), (.int .u8 0), (.int .u8 0), (.int .u8 0), (.int .u8 0), (.int .u8 0), (.int .u8 0), (.int .u8 0), (.int .u8 0), (.int .u8 0), (.int .u8 0), (.int .u8 0), (.int .u8 0), (.int .u8 0), (.int .u8 0), (.int .u8 0), (.int .u8 0), (.int .u8 0), (.int .u8 0), (.int .u8 0), (.int .u8 0), (.int .u8 0), (.int .u8 0), (.int .u8 0), (.int .u8 0), (.int .u8 0), (.int .u8 0), (.int .u8 0), (.int .u8 0), (.int .u8 0), (.int .u8 0), (.int .u8 0), (.int .u8 0), (.int .u8 0), (.int .u8 0), (.int .u8 0), (.int .u8 0), (.int .u8 0), (.int .u8 0), (.int .u8 0), (.int .u8 0), (.int .u8 0), (.int .u8 0), (.int .u8 0), (.int .u8 0), (.int .u8 0), (.int .u8 0), (.int .u8 0), (.int .u8 0), (.int .u8 0), (.int .u8 0), (.int .u8 0), (.int .u8 0), (.int .u8 0), (.int .u8 0), (.int .u8 0), (.int .u8 0), (.int .u8 0), (.int .u8 0), (.int .u8 0), (.int .u8 0), (.int .u8 0)] false (.tmp 43) (.tmp 45), none, 0, false⟩,
 ⟨(some 10), .move (.tmp 46), none, 0, false⟩])))
 (.region [⟨(some 30), .move (.tmp 11), none, 0, false⟩,
 ⟨(some 31), .bin .add (.tmp 30) (.const (.int .i64 1)), none, 0, false⟩,
 ⟨(some 11), .move (.tmp 31), none, 0, false⟩]))))))
 (.seq (.region [⟨(some 48), .move (.tmp 10), none, 0, false⟩,
 ⟨(some 49), .call (.func 249) [(.tmp 48)], none, 0, false⟩,
 ⟨(some 47), .move (.tmp 49), none, 0, false⟩,
 ⟨(some 50), .extract (.tmp 47) 0, none, 0, false⟩,
 ⟨(some 51), .extract (.tmp 47) 1, none, 0, false⟩,
 ⟨(some 52), .extract (.tmp 47) 2, none, 0, false⟩,
 ⟨(some 14), .alloc [(.int .u64 0), (.int .u32 0), (.slice none 0 0)] 255, none, 0, false⟩,
 ⟨none, .store 3 (.tmp 14) (.tmp 50), none, 0, false⟩,
 ⟨(some 15), .move (.tmp 51), none, 0, false⟩,
 ⟨(some 16), .move (.tmp 52), none, 0, false⟩])
 (.seq (.seq (.draw [⟨(some 53), .move (.tmp 16), none, 0, false⟩,
 ⟨(some 54), .un .not (.tmp 53), none, 0, false⟩,
 ⟨(some 55), .move (.tmp 54), none, 0, false⟩,
 ⟨(some 56), .fieldAddr 0 (.tmp 14), (some (55, false)), 0, false⟩,
 ⟨(some 57), .load1 (.tmp 56), (some (55, false)), 0, false⟩,
 ⟨(some 58), .move (.tmp 0), (some (55, false)), 0, false⟩,
 ⟨(some 59), .nilCheck (.tmp 58), (some (55, false)), 0, false⟩,
 ⟨(some 60), .fieldAddr 2 (.tmp 59), (some (55, false)), 0, false⟩,
 ⟨(some 61), .load1 (.tmp 60), (some (55, false)), 0, false⟩,
 ⟨(some 62), .bin .neq (.tmp 57) (.tmp 61), (some (55, false)), 0, false⟩,
 ⟨(some 63), .pick (.tmp 55) (.const (.bool true)) (.tmp 62), none, 0, false⟩,
 ⟨(some 64), .move (.tmp 63), none, 0, false⟩,
 ⟨(some 65), .fieldAddr 1 (.tmp 14), (some (64, false)), 0, false⟩,
 ⟨(some 66), .load1 (.tmp 65), (some (64, false)), 0, false⟩,
 ⟨(some 67), .move (.tmp 0), (some (64, false)), 0, false⟩,
 ⟨(some 68), .nilCheck (.tmp 67), (some (64, false)), 0, false⟩,
 ⟨(some 69), .fieldAddr 1 (.tmp 68), (some (64, false)), 0, false⟩,
 ⟨(some 70), .load1 (.tmp 69), (some (64, false)), 0, false⟩,
 ⟨(some 71), .bin .neq (.tmp 66) (.tmp 70), (some (64, false)), 0, false⟩,
 ⟨(some 72), .pick (.tmp 64) (.const (.bool true)) (.tmp 71), none, 0, false⟩])
 (.cond (.tmp 72) (.seq (.region [⟨(some 73), .build [(.int .u64 0), (.int .u32 0), (.slice none 0 0)] [], none, 0, false⟩,
 ⟨none, .store 3 (.tmp 6) (.tmp 73), none, 0, false⟩,
 ⟨(some 7), .move (.const (.int .i64 0)), none, 0, false⟩])
 .ret)
 .skip))
 (.seq (.region [⟨(some 74), .loadN 3 (.tmp 14), none, 0, false⟩,
 ⟨(some 75), .move (.tmp 15), none, 0, false⟩,
 ⟨none, .store 3 (.tmp 6) (.tmp 74), none, 0, false⟩,
 ⟨(some 7), .move (.tmp 75), none, 0, false⟩])
 .ret)))))))⟩

def L252 : LFunc := ⟨9, [.tmp 4],
 (.seq (.region [⟨(some 2), .box 1 74 (.tmp 0), none, 0, false⟩,
 ⟨(some 3), .box 1 3 (.tmp 1), none, 0, false⟩,
 ⟨(some 4), .move (.const .nilFunc), none, 0, false⟩])
 (.seq (.seq (.region [⟨(some 5), .load1 (.tmp 3), none, 0, false⟩,
 ⟨(some 6), .bin .lss (.tmp 5) (.const (.int .i64 1)), none, 0, false⟩])
 (.cond (.tmp 6) (.region [⟨(some 7), .mkIface 9 (.const (.string ⟨⟨[99, 97, 110, 110, 111, 116, 32, 98, 101, 32, 108, 101, 115, 115, 32, 116, 104, 97, 110, 32, 49]⟩⟩)), none, 0, false⟩,
 ⟨none, .bad, none, 0, false⟩])
 .skip))
 (.seq (.region [⟨(some 8), .mkFunc (.func 277) [] [(.tmp 2), (.tmp 3)], none, 0, false⟩,
 ⟨(some 4), .move (.tmp 8), none, 0, false⟩])
 .ret)))⟩

def L253 : LFunc := ⟨76, [.cellN 2 13, .tmp 3],
 (.seq (.region [⟨(some 2), .alloc [(.int .i64 0), (.int .u8 0), (.int .u8 0), (.int .u8 0), (.int .u8 0), (.int .i64 0), (.int .u64 0), (.int .u64 0), (.int .u64 0), (.int .u64 0), (.int .u64 0), (.int .u64 0), (.int .u64 0)] 34, none, 0, false⟩,
 ⟨(some 3), .move (.const (.int .i64 0)), none, 0, false⟩])
 (.seq (.seq (.region [⟨(some 9), .move (.tmp 0), none, 0, false⟩,
 ⟨(some 10), .len false (.tmp 9), none, 0, false⟩,
 ⟨(some 11), .bin .neq (.tmp 10) (.const (.int .i64 10)), none, 0, false⟩,
 ⟨(some 12), .move (.tmp 11), none, 0, false⟩,
 ⟨(some 13), .move (.tmp 0), (some (12, false)), 0, false⟩,
 ⟨(some 14), .indexAddr 1 (.tmp 13) (.const (.int .i64 1)), (some (12, false)), 0, false⟩,
 ⟨(some 15), .load1 (.tmp 14), (some (12, false)), 0, false⟩,
 ⟨(some 16), .bin .gtr (.tmp 15) (.const (.int .u64 4294967295)), (some (12, false)), 0, false⟩,
 ⟨(some 17), .pick (.tmp 12) (.const (.bool true)) (.tmp 16), none, 0, false⟩])
 (.cond (.tmp 17) (.seq (.region [⟨(some 18), .build [(.int .i64 0), (.int .u8 0), (.int .u8 0), (.int .u8 0), (.int .u8 0), (.int .i64 0), (.int .u64 0), (.int .u64 0), (.int .u64 0), (.int .u64 0), (.int .u64 0), (.int .u64 0), (.int .u64 0)] [], none, 0, false⟩,
 ⟨none, .store 13 (.tmp 2) (.tmp 18), none, 0, false⟩,
 ⟨(some 3), .move (.const (.int .i64 111)), none, 0, false⟩])
 .ret)
 .skip))
 (.seq (.region [⟨(some 20), .move (.tmp 0), none, 0, false⟩,
 ⟨(some 21), .indexAddr 1 (.tmp 20) (.const (.int .i64 0)), none, 0, false⟩,
 ⟨(some 22), .load1 (.tmp 21), none, 0, false⟩,
 ⟨(some 23), .call (.func 60) [(.tmp 22)], none, 0, false⟩,
 ⟨(some 19), .move (.tmp 23), none, 0, false⟩,
 ⟨(some 24), .extract (.tmp 19) 0, none, 0, false⟩,
 ⟨(some 25), .extract (.tmp 19) 1, none, 0, false⟩,
 ⟨(some 4), .move (.tmp 24), none, 0, false⟩,
 ⟨(some 5), .move (.tmp 25), none, 0, false⟩])
 (.seq (.region [⟨(some 27), .move (.tmp 0), none, 0, false⟩,
 ⟨(some 28), .indexAddr 1 (.tmp 27) (.const (.int .i64 2)), none, 0, false⟩,
 ⟨(some 29), .load1 (.tmp 28), none, 0, false⟩,
 ⟨(some 30), .call (.func 60) [(.tmp 29)], none, 0, false⟩,
 ⟨(some 26), .move (.tmp 30), none, 0, false⟩,
 ⟨(some 31), .extract (.tmp 26) 0, none, 0, false⟩,
 ⟨(some 32), .extract (.tmp 26) 1, none, 0, false⟩,
 ⟨(some 6), .move (.tmp 31), none, 0, false⟩,
 ⟨(some 7), .move (.tmp 32), none, 0, false⟩])
 (.seq (.draw [⟨(some 34), .move (.tmp 0), none, 0, false⟩,
 ⟨(some 35), .indexAddr 1 (.tmp 34) (.const (.int .i64 1)), none, 0, false⟩,
 ⟨(some 36), .load1 (.tmp 35), none, 0, false⟩,
 ⟨(some 37), .conv (.int .u32) (.tmp 36), none, 0, false⟩,
 ⟨(some 38), .call (.func 105) [(.tmp 37)], none, 0, true⟩,
 ⟨(some 33), .move (.tmp 4), none, 0, false⟩,
 ⟨(some 39), .move (.tmp 6), none, 0, false⟩,
 ⟨(some 40), .build [(.int .u8 0), (.int .u8 0), (.int .u8 0), (.int .u8 0), (.int .i64 0)] [(0, 4, (.tmp 38)), (4, 1, (.tmp 39))], none, 1, false⟩,
 ⟨(some 41), .move (.tmp 0), none, 0, false⟩,
 ⟨(some 42), .indexAddr 1 (.tmp 41) (.const (.int .i64 3)), none, 0, false⟩,
 ⟨(some 43), .load1 (.tmp 42), none, 0, false⟩,
 ⟨(some 44), .move (.tmp 0), none, 0, false⟩,
 ⟨(some 45), .indexAddr 1 (.tmp 44) (.const (.int .i64 4)), none, 0, false⟩,
 ⟨(some 46), .load1 (.tmp 45), none, 0, false⟩,
 ⟨(some 47), .move (.tmp 0), none, 0, false⟩,
 ⟨(some 48), .indexAddr 1 (.tmp 47) (.const (.int .i64 5)), none, 0, false⟩,
 ⟨(some 49), .load1 (.tmp 48), none, 0, false⟩,
 ⟨(some 50), .move (.tmp 0), none, 0, false⟩,
 ⟨(some 51), .indexAddr 1 (.tmp 50) (.const (.int .i64 6)), none, 0, false⟩,
 ⟨(some 52), .load1 (.tmp 51), none, 0, false⟩,
 ⟨(some 53), .move (.tmp 0), none, 0, false⟩,
 ⟨(some 54), .indexAddr 1 (.tmp 53) (.const (.int .i64 7)), none, 0, false⟩,
 ⟨(some 55), .load1 (.tmp 54), none, 0, false⟩,
 ⟨(some 56), .move (.tmp 0), none, 0, false⟩,
 ⟨(some 57), .indexAddr 1 (.tmp 56) (.const (.int .i64 8)), none, 0, false⟩,
 ⟨(some 58), .load1 (.tmp 57), none, 0, false⟩,
 ⟨(some 59), .move (.tmp 0), none, 0, false⟩,
 ⟨(some 60), .indexAddr 1 (.tmp 59) (.const (.int .i64 9)), none, 0, false⟩,
 ⟨(some 61), .load1 (.tmp 60), none, 0, false⟩,
 ⟨(some 62), .build [(.int .i64 0), (.int .u8 0), (.int .u8 0), (.int .u8 0), (.int .u8 0), (.int .i64 0), (.int .u64 0), (.int .u64 0), (.int .u64 0), (.int .u64 0), (.int .u64 0), (.int .u64 0), (.int .u64 0)] [(0, 1, (.tmp 33)), (1, 5, (.tmp 40)), (6, 1, (.tmp 43)), (7, 1, (.tmp 46)), (8, 1, (.tmp 49)), (9, 1, (.tmp 52)), (10, 1, (.tmp 55)), (11, 1, (.tmp 58)), (12, 1, (.tmp 61))], none, 1, false⟩,
 ⟨(some 8), .alloc [(.int .i64 0), (.int .u8 0), (.int .u8 0), (.int .u8 0), (.int .u8 0), (.int .i64 0), (.int .u64 0), (.int .u64 0), (.int .u64 0), (.int .u64 0), (.int .u64 0), (.int .u64 0), (.int .u64 0)] 34, none, 0, false⟩,
 ⟨none, .store 13 (.tmp 8) (.tmp 62), none, 1, true⟩])
 (.seq (.seq (.region [⟨(some 63), .move (.tmp 5), none, 0, false⟩,
 ⟨(some 64), .un .not (.tmp 63), none, 0, false⟩,
 ⟨(some 65), .move (.tmp 64), none, 0, false⟩,
 ⟨(some 66), .move (.tmp 7), (some (65, false)), 0, false⟩,
 ⟨(some 67), .un .not (.tmp 66), (some (65, false)), 0, false⟩,
 ⟨(some 68), .pick (.tmp 65) (.const (.bool true)) (.tmp 67), none, 0, false⟩,
 ⟨(some 69), .move (.tmp 68), none, 0, false⟩,
 ⟨(some 70), .loadN 13 (.tmp 8), (some (69, false)), 0, false⟩,
 ⟨(some 71), .call (.func 188) [(.tmp 70)], (some (69, false)), 0, false⟩,
 ⟨(some 72), .un .not (.tmp 71), (some (69, false)), 0, false⟩,
 ⟨(some 73), .pick (.tmp 69) (.const (.bool true)) (.tmp 72), none, 0, false⟩])
 (.cond (.tmp 73) (.seq (.region [⟨(some 74), .build [(.int .i64 0), (.int .u8 0), (.int .u8 0), (.int .u8 0), (.int .u8 0), (.int .i64 0), (.int .u64 0), (.int .u64 0), (.int .u64 0), (.int .u64 0), (.int .u64 0), (.int .u64 0), (.int .u64 0)] [], none, 0, false⟩,
 ⟨none, .store 13 (.tmp 2) (.tmp 74), none, 0, false⟩,
 ⟨(some 3), .move (.const (.int .i64 111)), none, 0, false⟩])
 .ret)
 .skip))
 (.seq (.region [⟨(some 75), .loadN 13 (.tmp 8), none, 0, false⟩,
 ⟨none, .store 13 (.tmp 2) (.tmp 75), none, 0, false⟩,
 ⟨(some 3), .move (.const (.int .i64 0)), none, 0, false⟩])
 .ret)))))))⟩

def L254 : LFunc := ⟨13, [.tmp 4],
 (.seq (.region [⟨(some 2), .box 1 157 (.tmp 0), none, 0, false⟩,
 ⟨(some 4), .move (.const (.slice none 0 0)), none, 0, false⟩])
 (.seq (.seq (.region [⟨(some 6), .move (.tmp 1), none, 0, false⟩])
 (.block 0 (.rangeFunc (.tmp 6) [7] (.region [⟨(some 5), .move (.tmp 7), none, 0, false⟩]) (.block 1 (.region [⟨(some 8), .load1 (.tmp 2), none, 0, false⟩,
 ⟨(some 9), .move (.tmp 5), none, 0, false⟩,
 ⟨(some 10), .buildSlice 1 1 3 [(.int .i64 0)] [(0, 1, (.tmp 9))], none, 0, false⟩,
 ⟨(some 11), .append 1 8 3 [(.int .i64 0)] false (.tmp 8) (.tmp 10), none, 0, false⟩,
 ⟨none, .store 1 (.tmp 2) (.tmp 11), none, 0, false⟩])))))
 (.seq (.region [⟨(some 12), .load1 (.tmp 2), none, 0, false⟩,
 ⟨(some 4), .move (.tmp 12), none, 0, false⟩])
 .ret)))⟩

def L255 : LFunc := ⟨134, [],
 (.seq (.region [⟨(some 8), .move (.const (.bool true)), none, 0, false⟩])
 (.seq (.region [⟨(some 9), .move (.const (.bool true)), none, 0, false⟩])
 (.block 0 (.loop (.block 1 (.seq (.region [⟨(some 19), .move (.tmp 2), none, 0, false⟩,
 ⟨(some 20), .move (.tmp 1), none, 0, false⟩,
 ⟨(some 21), .bin .sub (.tmp 19) (.tmp 20), none, 0, false⟩,
 ⟨(some 10), .move (.tmp 21), none, 0, false⟩])
 (.seq (.seq (.region [⟨(some 22), .move (.tmp 10), none, 0, false⟩,
 ⟨(some 23), .bin .leq (.tmp 22) (.const (.int .i64 12)), none, 0, false⟩])
 (.cond (.tmp 23) (.seq (.region [⟨(some 24), .move (.tmp 0), none, 0, false⟩,
 ⟨(some 25), .move (.tmp 1), none, 0, false⟩,
 ⟨(some 26), .move (.tmp 2), none, 0, false⟩,
 ⟨(some 27), .call (.func 278) [(.tmp 24), (.tmp 25), (.tmp 26)], none, 0, false⟩])
 .ret)
 .skip))
 (.seq (.seq (.region [⟨(some 28), .move (.tmp 3), none, 0, false⟩,
 ⟨(some 29), .bin .eql (.tmp 28) (.const (.int .i64 0)), none, 0, false⟩])
 (.cond (.tmp 29) (.seq (.region [⟨(some 30), .move (.tmp 0), none, 0, false⟩,
 ⟨(some 31), .move (.tmp 1), none, 0, false⟩,
 ⟨(some 32), .move (.tmp 2), none, 0, false⟩,
 ⟨(some 33), .call (.func 279) [(.tmp 30), (.tmp 31), (.tmp 32)], none, 0, false⟩])
 .ret)
 .skip))
 (.seq (.seq (.region [⟨(some 34), .move (.tmp 8), none, 0, false⟩,
 ⟨(some 35), .un .not (.tmp 34), none, 0, false⟩])
 (.cond (.tmp 35) (.seq (.region [⟨(some 36), .move (.tmp 0), none, 0, false⟩,
 ⟨(some 37), .move (.tmp 1), none, 0, false⟩,
 ⟨(some 38), .move (.tmp 2), none, 0, false⟩,
 ⟨(some 39), .call (.func 280) [(.tmp 36), (.tmp 37), (.tmp 38)], none, 0, false⟩])
 (.region [⟨(some 40), .move (.tmp 3), none, 0, false⟩,
 ⟨(some 41), .bin .sub (.tmp 40) (.const (.int .i64 1)), none, 0, false⟩,
 ⟨(some 3), .move (.tmp 41), none, 0, false⟩]))
 .skip))
 (.seq (.region [⟨(some 43), .move (.tmp 0), none, 0, false⟩,
 ⟨(some 44), .move (.tmp 1), none, 0, false⟩,
 ⟨(some 45), .move (.tmp 2), none, 0, false⟩,
 ⟨(some 46), .call (.func 281) [(.tmp 43), (.tmp 44), (.tmp 45)], none, 0, false⟩,
 ⟨(some 42), .move (.tmp 46), none, 0, false⟩,
 ⟨(some 47), .extract (.tmp 42) 0, none, 0, false⟩,
 ⟨(some 48), .extract (.tmp 42) 1, none, 0, false⟩,
 ⟨(some 11), .move (.tmp 47), none, 0, false⟩,
 ⟨(some 12), .move (.tmp 48), none, 0, false⟩])
 (.seq (.seq (.region [⟨(some 49), .move (.tmp 12), none, 0, false⟩,
 ⟨(some 50), .bin .eql (.tmp 49) (.const (.int .i64 2)), none, 0, false⟩])
 (.cond (.tmp 50) (.seq (.region [⟨(some 51), .move (.tmp 0), none, 0, false⟩,
 ⟨(some 52), .move (.tmp 1), none, 0, false⟩,
 ⟨(some 53), .move (.tmp 2), none, 0, false⟩,
 ⟨(some 54), .call (.func 282) [(.tmp 51), (.tmp 52), (.tmp 53)], none, 0, false⟩])
 (.seq (.region [⟨(some 55), .move (.tmp 2), none, 0, false⟩,
 ⟨(some 56), .bin .sub (.tmp 55) (.const (.int .i64 1)), none, 0, false⟩,
 ⟨(some 57), .move (.tmp 11), none, 0, false⟩,
 ⟨(some 58), .move (.tmp 1), none, 0, false⟩,
 ⟨(some 59), .bin .sub (.tmp 57) (.tmp 58), none, 0, false⟩,
 ⟨(some 60), .bin .sub (.tmp 56) (.tmp 59), none, 0, false⟩,
 ⟨(some 11), .move (.tmp 60), none, 0, false⟩])
 (.region [⟨(some 12), .move (.const (.int .i64 1)), none, 0, false⟩])))
 .skip))
 (.seq (.seq (.region [⟨(some 61), .move (.tmp 8), none, 0, false⟩,
 ⟨(some 62), .move (.tmp 61), none, 0, false⟩,
 ⟨(some 63), .move (.tmp 9), (some (62, true)), 0, false⟩,
 ⟨(some 64), .pick (.tmp 62) (.tmp 63) (.const (.bool false)), none, 0, false⟩,
 ⟨(some 65), .move (.tmp 64), none, 0, false⟩,
 ⟨(some 66), .move (.tmp 12), (some (65, true)), 0, false⟩,
 ⟨(some 67), .bin .eql (.tmp 66) (.const (.int .i64 1)), (some (65, true)), 0, false⟩,
 ⟨(some 68), .pick (.tmp 65) (.tmp 67) (.const (.bool false)), none, 0, false⟩])
 (.cond (.tmp 68) (.seq (.region [⟨(some 69), .move (.tmp 0), none, 0, false⟩,
 ⟨(some 70), .move (.tmp 1), none, 0, false⟩,
 ⟨(some 71), .move (.tmp 2), none, 0, false⟩,
 ⟨(some 72), .call (.func 283) [(.tmp 69), (.tmp 70), (.tmp 71)], none, 0, false⟩])
 (.cond (.tmp 72) .ret
 .skip))
 .skip))
 (.seq (.seq (.draw [⟨(some 73), .move (.tmp 1), none, 0, false⟩,
 ⟨(some 74), .bin .gtr (.tmp 73) (.const (.int .i64 0)), none, 0, false⟩,
 ⟨(some 75), .move (.tmp 74), none, 0, false⟩,
 ⟨(some 76), .move (.tmp 0), (some (75, true)), 0, false⟩,
 ⟨(some 77), .move (.tmp 1), (some (75, true)), 0, false⟩,
 ⟨(some 78), .bin .sub (.tmp 77) (.const (.int .i64 1)), (some (75, true)), 0, false⟩,
 ⟨(some 79), .indexAddr 1 (.tmp 76) (.tmp 78), (some (75, true)), 0, false⟩,
 ⟨(some 80), .load1 (.tmp 79), (some (75, true)), 0, false⟩,
 ⟨(some 81), .move (.tmp 0), (some (75, true)), 0, false⟩,
 ⟨(some 82), .move (.tmp 11), (some (75, true)), 0, false⟩,
 ⟨(some 83), .indexAddr 1 (.tmp 81) (.tmp 82), (some (75, true)), 0, false⟩,
 ⟨(some 84), .load1 (.tmp 83), (some (75, true)), 0, false⟩,
 ⟨(some 85), .call (.func 284) [(.tmp 80), (.tmp 84)], (some (75, true)), 0, true⟩,
 ⟨(some 86), .un .not (.tmp 85), (some (75, true)), 1, false⟩,
 ⟨(some 87), .pick (.tmp 75) (.tmp 86) (.const (.bool false)), none, 1, false⟩])
 (.cond (.tmp 87) (.seq (.region [⟨(some 88), .move (.tmp 0), none, 0, false⟩,
 ⟨(some 89), .move (.tmp 1), none, 0, false⟩,
 ⟨(some 90), .move (.tmp 2), none, 0, false⟩,
 ⟨(some 91), .move (.tmp 11), none, 0, false⟩,
 ⟨(some 92), .call (.func 285) [(.tmp 88), (.tmp 89), (.tmp 90), (.tmp 91)], none, 0, false⟩,
 ⟨(some 13), .move (.tmp 92), none, 0, false⟩])
 (.seq (.region [⟨(some 93), .move (.tmp 13), none, 0, false⟩,
 ⟨(some 1), .move (.tmp 93), none, 0, false⟩])
 (.exit 1)))
 .skip))
 (.seq (.region [⟨(some 95), .move (.tmp 0), none, 0, false⟩,
 ⟨(some 96), .move (.tmp 1), none, 0, false⟩,
 ⟨(some 97), .move (.tmp 2), none, 0, false⟩,
 ⟨(some 98), .move (.tmp 11), none, 0, false⟩,
 ⟨(some 99), .call (.func 286) [(.tmp 95), (.tmp 96), (.tmp 97), (.tmp 98)], none, 0, false⟩,
 ⟨(some 94), .move (.tmp 99), none, 0, false⟩,
 ⟨(some 100), .extract (.tmp 94) 0, none, 0, false⟩,
 ⟨(some 101), .extract (.tmp 94) 1, none, 0, false⟩,
 ⟨(some 14), .move (.tmp 100), none, 0, false⟩,
 ⟨(some 15), .move (.tmp 101), none, 0, false⟩])
 (.seq (.region [⟨(some 102), .move (.tmp 15), none, 0, false⟩,
 ⟨(some 9), .move (.tmp 102), none, 0, false⟩])
 (.seq (.region [⟨(some 103), .move (.tmp 14), none, 0, false⟩,
 ⟨(some 104), .move (.tmp 1), none, 0, false⟩,
 ⟨(some 105), .bin .sub (.tmp 103) (.tmp 104), none, 0, false⟩,
 ⟨(some 106), .move (.tmp 2), none, 0, false⟩,
 ⟨(some 107), .move (.tmp 14), none, 0, false⟩,
 ⟨(some 108), .bin .sub (.tmp 106) (.tmp 107), none, 0, false⟩,
 ⟨(some 16), .move (.tmp 105), none, 0, false⟩,
 ⟨(some 17), .move (.tmp 108), none, 0, false⟩])
 (.seq (.region [⟨(some 109), .move (.tmp 10), none, 0, false⟩,
 ⟨(some 110), .bin .quo (.tmp 109) (.const (.int .i64 8)), none, 0, false⟩,
 ⟨(some 18), .move (.tmp 110), none, 0, false⟩])
 (.seq (.region [⟨(some 111), .move (.tmp 16), none, 0, false⟩,
 ⟨(some 112), .move (.tmp 17), none, 0, false⟩,
 ⟨(some 113), .bin .lss (.tmp 111) (.tmp 112), none, 0, false⟩])
 (.cond (.tmp 113) (.seq (.region [⟨(some 114), .move (.tmp 16), none, 0, false⟩,
 ⟨(some 115), .move (.tmp 18), none, 0, false⟩,
 ⟨(some 116), .bin .geq (.tmp 114) (.tmp 115), none, 0, false⟩,
 ⟨(some 8), .move (.tmp 116), none, 0, false⟩])
 (.seq (.region [⟨(some 117), .move (.tmp 0), none, 0, false⟩,
 ⟨(some 118), .move (.tmp 1), none, 0, false⟩,
 ⟨(some 119), .move (.tmp 14), none, 0, false⟩,
 ⟨(some 120), .move (.tmp 3), none, 0, false⟩,
 ⟨(some 121), .call (.func 255) [(.tmp 117), (.tmp 118), (.tmp 119), (.tmp 120)], none, 0, false⟩])
 (.region [⟨(some 122), .move (.tmp 14), none, 0, false⟩,
 ⟨(some 123), .bin .add (.tmp 122) (.const (.int .i64 1)), none, 0, false⟩,
 ⟨(some 1), .move (.tmp 123), none, 0, false⟩])))
 (.seq (.region [⟨(some 124), .move (.tmp 17), none, 0, false⟩,
 ⟨(some 125), .move (.tmp 18), none, 0, false⟩,
 ⟨(some 126), .bin .geq (.tmp 124) (.tmp 125), none, 0, false⟩,
 ⟨(some 8), .move (.tmp 126), none, 0, false⟩])
 (.seq (.region [⟨(some 127), .move (.tmp 0), none, 0, false⟩,
 ⟨(some 128), .move (.tmp 14), none, 0, false⟩,
 ⟨(some 129), .bin .add (.tmp 128) (.const (.int .i64 1)), none, 0, false⟩,
 ⟨(some 130), .move (.tmp 2), none, 0, false⟩,
 ⟨(some 131), .move (.tmp 3), none, 0, false⟩,
 ⟨(some 132), .call (.func 255) [(.tmp 127), (.tmp 129), (.tmp 130), (.tmp 131)], none, 0, false⟩])
 (.region [⟨(some 133), .move (.tmp 14), none, 0, false⟩,
 ⟨(some 2), .move (.tmp 133), none, 0, false⟩]))))))))))))))))))))))⟩

def L256 : LFunc := ⟨19, [.tmp 4],
 (.seq (.region [⟨(some 4), .move (.const (.int .i64 0)), none, 0, false⟩])
 (.seq (.seq (.region [⟨(some 6), .move (.tmp 0), none, 0, false⟩,
 ⟨(some 7), .len false (.tmp 6), none, 0, false⟩,
 ⟨(some 8), .move (.const (.int .i64 0)), none, 0, false⟩])
 (.block 0 (.loop (.seq (.region [⟨(some 9), .bin .lss (.tmp 8) (.tmp 7), none, 0, false⟩])
 (.seq (.cond (.tmp 9) .skip
 (.exit 0))
 (.seq (.block 1 (.seq (.region [⟨(some 10), .move (.tmp 8), none, 0, false⟩,
 ⟨(some 5), .move (.tmp 10), none, 0, false⟩])
 (.seq (.region [⟨(some 11), .move (.tmp 1), none, 0, false⟩,
 ⟨(some 12), .move (.tmp 0), none, 0, false⟩,
 ⟨(some 13), .move (.tmp 5), none, 0, false⟩,
 ⟨(some 14), .indexAddr 1 (.tmp 12) (.tmp 13), none, 0, false⟩,
 ⟨(some 15), .load1 (.tmp 14), none, 0, false⟩,
 ⟨(some 16), .call (.tmp 11) [(.tmp 15)], none, 0, false⟩])
 (.cond (.tmp 16) (.seq (.region [⟨(some 17), .move (.tmp 5), none, 0, false⟩,
 ⟨(some 4), .move (.tmp 17), none, 0, false⟩])
 .ret)
 .skip))))
 (.region [⟨(some 18), .bin .add (.tmp 8) (.const (.int .i64 1)), none, 0, false⟩,
 ⟨(some 8), .move (.tmp 18), none, 0, false⟩])))))))
 (.seq (.region [⟨(some 4), .move (.const (.int .i64 (-1))), none, 0, false⟩])
 .ret)))⟩

def L257 : LFunc := ⟨19, [.tmp 4],
 (.seq (.region [⟨(some 4), .move (.const (.int .i64 0)), none, 0, false⟩])
 (.seq (.seq (.region [⟨(some 6), .move (.tmp 0), none, 0, false⟩,
 ⟨(some 7), .len false (.tmp 6), none, 0, false⟩,
 ⟨(some 8), .move (.const (.int .i64 0)), none, 0, false⟩])
 (.block 0 (.loop (.seq (.region [⟨(some 9), .bin .lss (.tmp 8) (.tmp 7), none, 0, false⟩])
 (.seq (.cond (.tmp 9) .skip
 (.exit 0))
 (.seq (.block 1 (.seq (.region [⟨(some 10), .move (.tmp 8), none, 0, false⟩,
 ⟨(some 5), .move (.tmp 10), none, 0, false⟩])
 (.seq (.region [⟨(some 11), .move (.tmp 1), none, 0, false⟩,
 ⟨(some 12), .move (.tmp 0), none, 0, false⟩,
 ⟨(some 13), .move (.tmp 5), none, 0, false⟩,
 ⟨(some 14), .indexAddr 1 (.tmp 12) (.tmp 13), none, 0, false⟩,
 ⟨(some 15), .load1 (.tmp 14), none, 0, false⟩,
 ⟨(some 16), .call (.tmp 11) [(.tmp 15)], none, 0, false⟩])
 (.cond (.tmp 16) (.seq (.region [⟨(some 17), .move (.tmp 5), none, 0, false⟩,
 ⟨(some 4), .move (.tmp 17), none, 0, false⟩])
 .ret)
 .skip))))
 (.region [⟨(some 18), .bin .add (.tmp 8) (.const (.int .i64 1)), none, 0, false⟩,
 ⟨(some 8), .move (.tmp 18), none, 0, false⟩])))))))
 (.seq (.region [⟨(some 4), .move (.const (.int .i64 (-1))), none, 0, false⟩])
 .ret)))⟩

def L258 : LFunc := ⟨9, [.tmp 2],
 (.seq (.region [⟨(some 2), .move (.const (.bool false)), none, 0, false⟩])
 (.seq (.region [⟨(some 3), .move (.tmp 0), none, 0, false⟩,
 ⟨(some 4), .bin .geq (.tmp 3) (.const (.int .u64 1)), none, 0, false⟩,
 ⟨(some 5), .move (.tmp 4), none, 0, false⟩,
 ⟨(some 6), .move (.tmp 0), (some (5, true)), 0, false⟩,
 ⟨(some 7), .bin .leq (.tmp 6) (.const (.int .u64 281474976710656)), (some (5, true)), 0, false⟩,
 ⟨(some 8), .pick (.tmp 5) (.tmp 7) (.const (.bool false)), none, 0, false⟩,
 ⟨(some 2), .move (.tmp 8), none, 0, false⟩])
 .ret))⟩

def L259 : LFunc := ⟨19, [.tmp 4],
 (.seq (.region [⟨(some 4), .move (.const (.int .i64 0)), none, 0, false⟩])
 (.seq (.seq (.region [⟨(some 6), .move (.tmp 0), none, 0, false⟩,
 ⟨(some 7), .len false (.tmp 6), none, 0, false⟩,
 ⟨(some 8), .move (.const (.int .i64 0)), none, 0, false⟩])
 (.block 0 (.loop (.seq (.region [⟨(some 9), .bin .lss (.tmp 8) (.tmp 7), none, 0, false⟩])
 (.seq (.cond (.tmp 9) .skip
 (.exit 0))
 (.seq (.block 1 (.seq (.region [⟨(some 10), .move (.tmp 8), none, 0, false⟩,
 ⟨(some 5), .move (.tmp 10), none, 0, false⟩])
 (.seq (.region [⟨(some 11), .move (.tmp 1), none, 0, false⟩,
 ⟨(some 12), .move (.tmp 0), none, 0, false⟩,
 ⟨(some 13), .move (.tmp 5), none, 0, false⟩,
 ⟨(some 14), .indexAddr 13 (.tmp 12) (.tmp 13), none, 0, false⟩,
 ⟨(some 15), .loadN 13 (.tmp 14), none, 0, false⟩,
 ⟨(some 16), .call (.tmp 11) [(.tmp 15)], none, 0, false⟩])
 (.cond (.tmp 16) (.seq (.region [⟨(some 17), .move (.tmp 5), none, 0, false⟩,
 ⟨(some 4), .move (.tmp 17), none, 0, false⟩])
 .ret)
 .skip))))
 (.region [⟨(some 18), .bin .add (.tmp 8) (.const (.int .i64 1)), none, 0, false⟩,
 ⟨(some 8), .move (.tmp 18), none, 0, false⟩])))))))
 (.seq (.region [⟨(some 4), .move (.const (.int .i64 (-1))), none, 0, false⟩])
 .ret)))⟩

def L260 : LFunc := ⟨53, [],
 (.seq (.region [⟨(some 10), .move (.tmp 1), none, 0, false⟩,
 ⟨(some 11), .bin .add (.tmp 10) (.const (.int .i64 1)), none, 0, false⟩,
 ⟨(some 8), .move (.tmp 11), none, 0, false⟩])
 (.block 0 (.loop (.seq (.seq (.region [⟨(some 12), .move (.tmp 8), none, 0, false⟩,
 ⟨(some 13), .move (.tmp 2), none, 0, false⟩,
 ⟨(some 14), .bin .lss (.tmp 12) (.tmp 13), none, 0, false⟩])
 (.cond (.tmp 14) .skip
 (.exit 0)))
 (.seq (.block 1 (.seq (.region [⟨(some 17), .move (.tmp 8), none, 0, false⟩,
 ⟨(some 9), .move (.tmp 17), none, 0, false⟩])
 (.block 2 (.loop (.seq (.seq (.draw [⟨(some 18), .move (.tmp 9), none, 0, false⟩,
 ⟨(some 19), .move (.tmp 1), none, 0, false⟩,
 ⟨(some 20), .bin .gtr (.tmp 18) (.tmp 19), none, 0, false⟩,
 ⟨(some 21), .move (.tmp 20), none, 0, false⟩,
 ⟨(some 22), .move (.tmp 3), (some (21, true)), 0, false⟩,
 ⟨(some 23), .move (.tmp 0), (some (21, true)), 0, false⟩,
 ⟨(some 24), .move (.tmp 9), (some (21, true)), 0, false⟩,
 ⟨(some 25), .indexAddr 14 (.tmp 23) (.tmp 24), (some (21, true)), 0, false⟩,
 ⟨(some 26), .loadN 14 (.tmp 25), (some (21, true)), 0, false⟩,
 ⟨(some 27), .move (.tmp 0), (some (21, true)), 0, false⟩,
 ⟨(some 28), .move (.tmp 9), (some (21, true)), 0, false⟩,
 ⟨(some 29), .bin .sub (.tmp 28) (.const (.int .i64 1)), (some (21, true)), 0, false⟩,
 ⟨(some 30), .indexAddr 14 (.tmp 27) (.tmp 29), (some (21, true)), 0, false⟩,
 ⟨(some 31), .loadN 14 (.tmp 30), (some (21, true)), 0, false⟩,
 ⟨(some 32), .call (.tmp 22) [(.tmp 26), (.tmp 31)], (some (21, true)), 0, true⟩,
 ⟨(some 33), .bin .lss (.tmp 32) (.const (.int .i64 0)), (some (21, true)), 1, false⟩,
 ⟨(some 34), .pick (.tmp 21) (.tmp 33) (.const (.bool false)), none, 1, false⟩])
 (.cond (.tmp 34) .skip
 (.exit 2)))
 (.seq (.block 3 (.draw [⟨(some 37), .move (.tmp 0), none, 0, false⟩,
 ⟨(some 38), .move (.tmp 9), none, 0, false⟩,
 ⟨(some 42), .move (.tmp 0), none, 0, false⟩,
 ⟨(some 43), .move (.tmp 9), none, 0, false⟩,
 ⟨(some 44), .bin .sub (.tmp 43) (.const (.int .i64 1)), none, 0, false⟩,
 ⟨(some 45), .indexAddr 14 (.tmp 42) (.tmp 44), none, 0, false⟩,
 ⟨(some 46), .loadN 14 (.tmp 45), none, 0, false⟩,
 ⟨(some 47), .move (.tmp 0), none, 0, false⟩,
 ⟨(some 48), .move (.tmp 9), none, 0, false⟩,
 ⟨(some 49), .indexAddr 14 (.tmp 47) (.tmp 48), none, 0, false⟩,
 ⟨(some 50), .loadN 14 (.tmp 49), none, 0, false⟩,
 ⟨(some 51), .indexAddr 14 (.tmp 37) (.tmp 38), none, 0, false⟩,
 ⟨none, .store 14 (.tmp 51) (.tmp 46), none, 0, true⟩,
 ⟨(some 39), .move (.tmp 0), none, 0, false⟩,
 ⟨(some 40), .move (.tmp 9), none, 0, false⟩,
 ⟨(some 41), .bin .sub (.tmp 40) (.const (.int .i64 1)), none, 0, false⟩,
 ⟨(some 52), .indexAddr 14 (.tmp 39) (.tmp 41), none, 1, false⟩,
 ⟨none, .store 14 (.tmp 52) (.tmp 50), none, 1, true⟩]))
 (.region [⟨(some 35), .move (.tmp 9), none, 0, false⟩,
 ⟨(some 36), .bin .sub (.tmp 35) (.const (.int .i64 1)), none, 0, false⟩,
 ⟨(some 9), .move (.tmp 36), none, 0, false⟩])))))))
 (.region [⟨(some 15), .move (.tmp 8), none, 0, false⟩,
 ⟨(some 16), .bin .add (.tmp 15) (.const (.int .i64 1)), none, 0, false⟩,
 ⟨(some 8), .move (.tmp 16), none, 0, false⟩]))))))⟩

def L261 : LFunc := ⟨60, [],
 (.seq (.region [⟨(some 13), .move (.tmp 1), none, 0, false⟩,
 ⟨(some 8), .move (.tmp 13), none, 0, false⟩])
 (.seq (.region [⟨(some 9), .move (.const (.int .i64 0)), none, 0, false⟩])
 (.seq (.region [⟨(some 14), .move (.tmp 2), none, 0, false⟩,
 ⟨(some 15), .move (.tmp 1), none, 0, false⟩,
 ⟨(some 16), .bin .sub (.tmp 14) (.tmp 15), none, 0, false⟩,
 ⟨(some 10), .move (.tmp 16), none, 0, false⟩])
 (.seq (.seq (.region [⟨(some 17), .move (.tmp 10), none, 0, false⟩,
 ⟨(some 18), .bin .sub (.tmp 17) (.const (.int .i64 1)), none, 0, false⟩,
 ⟨(some 19), .bin .quo (.tmp 18) (.const (.int .i64 2)), none, 0, false⟩,
 ⟨(some 11), .move (.tmp 19), none, 0, false⟩])
 (.block 0 (.loop (.seq (.seq (.region [⟨(some 20), .move (.tmp 11), none, 0, false⟩,
 ⟨(some 21), .bin .geq (.tmp 20) (.const (.int .i64 0)), none, 0, false⟩])
 (.cond (.tmp 21) .skip
 (.exit 0)))
 (.seq (.block 1 (.region [⟨(some 24), .move (.tmp 0), none, 0, false⟩,
 ⟨(some 25), .move (.tmp 11), none, 0, false⟩,
 ⟨(some 26), .move (.tmp 10), none, 0, false⟩,
 ⟨(some 27), .move (.tmp 8), none, 0, false⟩,
 ⟨(some 28), .move (.tmp 3), none, 0, false⟩,
 ⟨(some 29), .call (.func 287) [(.tmp 24), (.tmp 25), (.tmp 26), (.tmp 27), (.tmp 28)], none, 0, false⟩]))
 (.region [⟨(some 22), .move (.tmp 11), none, 0, false⟩,
 ⟨(some 23), .bin .sub (.tmp 22) (.const (.int .i64 1)), none, 0, false⟩,
 ⟨(some 11), .move (.tmp 23), none, 0, false⟩]))))))
 (.seq (.region [⟨(some 30), .move (.tmp 10), none, 0, false⟩,
 ⟨(some 31), .bin .sub (.tmp 30) (.const (.int .i64 1)), none, 0, false⟩,
 ⟨(some 12), .move (.tmp 31), none, 0, false⟩])
 (.block 2 (.loop (.seq (.seq (.region [⟨(some 32), .move (.tmp 12), none, 0, false⟩,
 ⟨(some 33), .bin .geq (.tmp 32) (.const (.int .i64 0)), none, 0, false⟩])
 (.cond (.tmp 33) .skip
 (.exit 2)))
 (.seq (.block 3 (.seq (.draw [⟨(some 36), .move (.tmp 0), none, 0, false⟩,
 ⟨(some 37), .move (.tmp 8), none, 0, false⟩,
 ⟨(some 42), .move (.tmp 0), none, 0, false⟩,
 ⟨(some 43), .move (.tmp 8), none, 0, false⟩,
 ⟨(some 44), .move (.tmp 12), none, 0, false⟩,
 ⟨(some 45), .bin .add (.tmp 43) (.tmp 44), none, 0, false⟩,
 ⟨(some 46), .indexAddr 14 (.tmp 42) (.tmp 45), none, 0, false⟩,
 ⟨(some 47), .loadN 14 (.tmp 46), none, 0, false⟩,
 ⟨(some 48), .move (.tmp 0), none, 0, false⟩,
 ⟨(some 49), .move (.tmp 8), none, 0, false⟩,
 ⟨(some 50), .indexAddr 14 (.tmp 48) (.tmp 49), none, 0, false⟩,
 ⟨(some 51), .loadN 14 (.tmp 50), none, 0, false⟩,
 ⟨(some 52), .indexAddr 14 (.tmp 36) (.tmp 37), none, 0, false⟩,
 ⟨none, .store 14 (.tmp 52) (.tmp 47), none, 0, true⟩,
 ⟨(some 38), .move (.tmp 0), none, 0, false⟩,
 ⟨(some 39), .move (.tmp 8), none, 0, false⟩,
 ⟨(some 40), .move (.tmp 12), none, 0, false⟩,
 ⟨(some 41), .bin .add (.tmp 39) (.tmp 40), none, 0, false⟩,
 ⟨(some 53), .indexAddr 14 (.tmp 38) (.tmp 41), none, 1, false⟩,
 ⟨none, .store 14 (.tmp 53) (.tmp 51), none, 1, true⟩])
 (.region [⟨(some 54), .move (.tmp 0), none, 0, false⟩,
 ⟨(some 55), .move (.tmp 9), none, 0, false⟩,
 ⟨(some 56), .move (.tmp 12), none, 0, false⟩,
 ⟨(some 57), .move (.tmp 8), none, 0, false⟩,
 ⟨(some 58), .move (.tmp 3), none, 0, false⟩,
 ⟨(some 59), .call (.func 287) [(.tmp 54), (.tmp 55), (.tmp 56), (.tmp 57), (.tmp 58)], none, 0, false⟩])))
 (.region [⟨(some 34), .move (.tmp 12), none, 0, false⟩,
 ⟨(some 35), .bin .sub (.tmp 34) (.const (.int .i64 1)), none, 0, false⟩,
 ⟨(some 12), .move (.tmp 35), none, 0, false⟩]))))))))))⟩

def L262 : LFunc := ⟨67, [],
 (.seq (.region [⟨(some 13), .move (.tmp 2), none, 0, false⟩,
 ⟨(some 14), .move (.tmp 1), none, 0, false⟩,
 ⟨(some 15), .bin .sub (.tmp 13) (.tmp 14), none, 0, false⟩,
 ⟨(some 8), .move (.tmp 15), none, 0, false⟩])
 (.seq (.region [⟨(some 16), .move (.tmp 8), none, 0, false⟩,
 ⟨(some 17), .bin .geq (.tmp 16) (.const (.int .i64 8)), none, 0, false⟩])
 (.cond (.tmp 17) (.seq (.region [⟨(some 18), .move (.tmp 8), none, 0, false⟩,
 ⟨(some 19), .conv (.int .u64) (.tmp 18), none, 0, false⟩,
 ⟨(some 9), .alloc [(.int .u64 0)] 371, none, 0, false⟩,
 ⟨none, .store 1 (.tmp 9) (.tmp 19), none, 0, false⟩])
 (.seq (.region [⟨(some 20), .move (.tmp 8), none, 0, false⟩,
 ⟨(some 21), .call (.func 288) [(.tmp 20)], none, 0, false⟩,
 ⟨(some 10), .move (.tmp 21), none, 0, false⟩])
 (.seq (.region [⟨(some 22), .move (.tmp 1), none, 0, false⟩,
 ⟨(some 23), .move (.tmp 8), none, 0, false⟩,
 ⟨(some 24), .bin .quo (.tmp 23) (.const (.int .i64 4)), none, 0, false⟩,
 ⟨(some 25), .bin .mul (.tmp 24) (.const (.int .i64 2)), none, 0, false⟩,
 ⟨(some 26), .bin .add (.tmp 22) (.tmp 25), none, 0, false⟩,
 ⟨(some 27), .bin .sub (.tmp 26) (.const (.int .i64 1)), none, 0, false⟩,
 ⟨(some 11), .move (.tmp 27), none, 0, false⟩])
 (.block 0 (.loop (.seq (.seq (.region [⟨(some 28), .move (.tmp 11), none, 0, false⟩,
 ⟨(some 29), .move (.tmp 1), none, 0, false⟩,
 ⟨(some 30), .move (.tmp 8), none, 0, false⟩,
 ⟨(some 31), .bin .quo (.tmp 30) (.const (.int .i64 4)), none, 0, false⟩,
 ⟨(some 32), .bin .mul (.tmp 31) (.const (.int .i64 2)), none, 0, false⟩,
 ⟨(some 33), .bin .add (.tmp 29) (.tmp 32), none, 0, false⟩,
 ⟨(some 34), .bin .add (.tmp 33) (.const (.int .i64 1)), none, 0, false⟩,
 ⟨(some 35), .bin .leq (.tmp 28) (.tmp 34), none, 0, false⟩])
 (.cond (.tmp 35) .skip
 (.exit 0)))
 (.seq (.block 1 (.seq (.region [⟨(some 38), .call (.func 289) [(.tmp 9)], none, 0, false⟩,
 ⟨(some 39), .move (.tmp 10), none, 0, false⟩,
 ⟨(some 40), .bin .sub (.tmp 39) (.const (.int .u64 1)), none, 0, false⟩,
 ⟨(some 41), .bin .and (.tmp 38) (.tmp 40), none, 0, false⟩,
 ⟨(some 42), .conv (.int .i64) (.tmp 41), none, 0, false⟩,
 ⟨(some 12), .move (.tmp 42), none, 0, false⟩])
 (.seq (.seq (.region [⟨(some 43), .move (.tmp 12), none, 0, false⟩,
 ⟨(some 44), .move (.tmp 8), none, 0, false⟩,
 ⟨(some 45), .bin .geq (.tmp 43) (.tmp 44), none, 0, false⟩])
 (.cond (.tmp 45) (.region [⟨(some 46), .move (.tmp 12), none, 0, false⟩,
 ⟨(some 47), .move (.tmp 8), none, 0, false⟩,
 ⟨(some 48), .bin .sub (.tmp 46) (.tmp 47), none, 0, false⟩,
 ⟨(some 12), .move (.tmp 48), none, 0, false⟩])
 .skip))
 (.draw [⟨(some 49), .move (.tmp 0), none, 0, false⟩,
 ⟨(some 50), .move (.tmp 11), none, 0, false⟩,
 ⟨(some 55), .move (.tmp 0), none, 0, false⟩,
 ⟨(some 56), .move (.tmp 1), none, 0, false⟩,
 ⟨(some 57), .move (.tmp 12), none, 0, false⟩,
 ⟨(some 58), .bin .add (.tmp 56) (.tmp 57), none, 0, false⟩,
 ⟨(some 59), .indexAddr 14 (.tmp 55) (.tmp 58), none, 0, false⟩,
 ⟨(some 60), .loadN 14 (.tmp 59), none, 0, false⟩,
 ⟨(some 61), .move (.tmp 0), none, 0, false⟩,
 ⟨(some 62), .move (.tmp 11), none, 0, false⟩,
 ⟨(some 63), .indexAddr 14 (.tmp 61) (.tmp 62), none, 0, false⟩,
 ⟨(some 64), .loadN 14 (.tmp 63), none, 0, false⟩,
 ⟨(some 65), .indexAddr 14 (.tmp 49) (.tmp 50), none, 0, false⟩,
 ⟨none, .store 14 (.tmp 65) (.tmp 60), none, 0, true⟩,
 ⟨(some 51), .move (.tmp 0), none, 0, false⟩,
 ⟨(some 52), .move (.tmp 1), none, 0, false⟩,
 ⟨(some 53), .move (.tmp 12), none, 0, false⟩,
 ⟨(some 54), .bin .add (.tmp 52) (.tmp 53), none, 0, false⟩,
 ⟨(some 66), .indexAddr 14 (.tmp 51) (.tmp 54), none, 1, false⟩,
 ⟨none, .store 14 (.tmp 66) (.tmp 64), none, 1, true⟩]))))
 (.region [⟨(some 36), .move (.tmp 11), none, 0, false⟩,
 ⟨(some 37), .bin .add (.tmp 36) (.const (.int .i64 1)), none, 0, false⟩,
 ⟨(some 11), .move (.tmp 37), none, 0, false⟩]))))))))
 .skip)))⟩

def L263 : LFunc := ⟨63, [.tmp 8, .tmp 9],
 (.seq (.region [⟨(some 8), .move (.const (.int .i64 0)), none, 0, false⟩,
 ⟨(some 9), .move (.const (.int .i64 0)), none, 0, false⟩])
 (.seq (.region [⟨(some 15), .move (.tmp 2), none, 0, false⟩,
 ⟨(some 16), .move (.tmp 1), none, 0, false⟩,
 ⟨(some 17), .bin .sub (.tmp 15) (.tmp 16), none, 0, false⟩,
 ⟨(some 10), .move (.tmp 17), none, 0, false⟩])
 (.seq (.region [⟨(some 11), .alloc [(.int .i64 0)] 3, none, 0, false⟩])
 (.seq (.region [⟨(some 18), .move (.tmp 1), none, 0, false⟩,
 ⟨(some 19), .move (.tmp 10), none, 0, false⟩,
 ⟨(some 20), .bin .quo (.tmp 19) (.const (.int .i64 4)), none, 0, false⟩,
 ⟨(some 21), .bin .mul (.tmp 20) (.const (.int .i64 1)), none, 0, false⟩,
 ⟨(some 22), .bin .add (.tmp 18) (.tmp 21), none, 0, false⟩,
 ⟨(some 12), .move (.tmp 22), none, 0, false⟩])
 (.seq (.region [⟨(some 23), .move (.tmp 1), none, 0, false⟩,
 ⟨(some 24), .move (.tmp 10), none, 0, false⟩,
 ⟨(some 25), .bin .quo (.tmp 24) (.const (.int .i64 4)), none, 0, false⟩,
 ⟨(some 26), .bin .mul (.tmp 25) (.const (.int .i64 2)), none, 0, false⟩,
 ⟨(some 27), .bin .add (.tmp 23) (.tmp 26), none, 0, false⟩,
 ⟨(some 13), .move (.tmp 27), none, 0, false⟩])
 (.seq (.region [⟨(some 28), .move (.tmp 1), none, 0, false⟩,
 ⟨(some 29), .move (.tmp 10), none, 0, false⟩,
 ⟨(some 30), .bin .quo (.tmp 29) (.const (.int .i64 4)), none, 0, false⟩,
 ⟨(some 31), .bin .mul (.tmp 30) (.const (.int .i64 3)), none, 0, false⟩,
 ⟨(some 32), .bin .add (.tmp 28) (.tmp 31), none, 0, false⟩,
 ⟨(some 14), .move (.tmp 32), none, 0, false⟩])
 (.seq (.seq (.region [⟨(some 33), .move (.tmp 10), none, 0, false⟩,
 ⟨(some 34), .bin .geq (.tmp 33) (.const (.int .i64 8)), none, 0, false⟩])
 (.cond (.tmp 34) (.seq (.seq (.region [⟨(some 35), .move (.tmp 10), none, 0, false⟩,
 ⟨(some 36), .bin .geq (.tmp 35) (.const (.int .i64 50)), none, 0, false⟩])
 (.cond (.tmp 36) (.seq (.region [⟨(some 37), .move (.tmp 0), none, 0, false⟩,
 ⟨(some 38), .move (.tmp 12), none, 0, false⟩,
 ⟨(some 39), .move (.tmp 3), none, 0, false⟩,
 ⟨(some 40), .call (.func 290) [(.tmp 37), (.tmp 38), (.tmp 11), (.tmp 39)], none, 0, false⟩,
 ⟨(some 12), .move (.tmp 40), none, 0, false⟩])
 (.seq (.region [⟨(some 41), .move (.tmp 0), none, 0, false⟩,
 ⟨(some 42), .move (.tmp 13), none, 0, false⟩,
 ⟨(some 43), .move (.tmp 3), none, 0, false⟩,
 ⟨(some 44), .call (.func 290) [(.tmp 41), (.tmp 42), (.tmp 11), (.tmp 43)], none, 0, false⟩,
 ⟨(some 13), .move (.tmp 44), none, 0, false⟩])
 (.region [⟨(some 45), .move (.tmp 0), none, 0, false⟩,
 ⟨(some 46), .move (.tmp 14), none, 0, false⟩,
 ⟨(some 47), .move (.tmp 3), none, 0, false⟩,
 ⟨(some 48), .call (.func 290) [(.tmp 45), (.tmp 46), (.tmp 11), (.tmp 47)], none, 0, false⟩,
 ⟨(some 14), .move (.tmp 48), none, 0, false⟩])))
 .skip))
 (.region [⟨(some 49), .move (.tmp 0), none, 0, false⟩,
 ⟨(some 50), .move (.tmp 12), none, 0, false⟩,
 ⟨(some 51), .move (.tmp 13), none, 0, false⟩,
 ⟨(some 52), .move (.tmp 14), none, 0, false⟩,
 ⟨(some 53), .move (.tmp 3), none, 0, false⟩,
 ⟨(some 54), .call (.func 291) [(.tmp 49), (.tmp 50), (.tmp 51), (.tmp 52), (.tmp 11), (.tmp 53)], none, 0, false⟩,
 ⟨(some 13), .move (.tmp 54), none, 0, false⟩]))
 .skip))
 (.seq (.region [⟨(some 55), .load1 (.tmp 11), none, 0, false⟩])
 (.block 0 (.seq (.region [⟨(some 58), .bin .eql (.tmp 55) (.const (.int .i64 0)), none, 0, false⟩,
 ⟨(some 57), .move (.tmp 58), none, 0, false⟩])
 (.cond (.tmp 57) (.seq (.region [⟨(some 59), .move (.tmp 13), none, 0, false⟩,
 ⟨(some 8), .move (.tmp 59), none, 0, false⟩,
 ⟨(some 9), .move (.const (.int .i64 1)), none, 0, false⟩])
 .ret)
 (.seq (.region [⟨(some 61), .bin .eql (.tmp 55) (.const (.int .i64 12)), none, 0, false⟩,
 ⟨(some 60), .move (.tmp 61), none, 0, false⟩])
 (.cond (.tmp 60) (.seq (.region [⟨(some 62), .move (.tmp 13), none, 0, false⟩,
 ⟨(some 8), .move (.tmp 62), none, 0, false⟩,
 ⟨(some 9), .move (.const (.int .i64 2)), none, 0, false⟩])
 .ret)
 (.seq (.region [⟨(some 56), .move (.tmp 13), none, 0, false⟩,
 ⟨(some 8), .move (.tmp 56), none, 0, false⟩,
 ⟨(some 9), .move (.const (.int .i64 0)), none, 0, false⟩])
 .ret))))))))))))))⟩

def L264 : LFunc := ⟨34, [],
 (.seq (.region [⟨(some 10), .move (.tmp 1), none, 0, false⟩,
 ⟨(some 8), .move (.tmp 10), none, 0, false⟩])
 (.seq (.region [⟨(some 11), .move (.tmp 2), none, 0, false⟩,
 ⟨(some 12), .bin .sub (.tmp 11) (.const (.int .i64 1)), none, 0, false⟩,
 ⟨(some 9), .move (.tmp 12), none, 0, false⟩])
 (.block 0 (.loop (.seq (.seq (.region [⟨(some 13), .move (.tmp 8), none, 0, false⟩,
 ⟨(some 14), .move (.tmp 9), none, 0, false⟩,
 ⟨(some 15), .bin .lss (.tmp 13) (.tmp 14), none, 0, false⟩])
 (.cond (.tmp 15) .skip
 (.exit 0)))
 (.block 1 (.seq (.draw [⟨(some 16), .move (.tmp 0), none, 0, false⟩,
 ⟨(some 17), .move (.tmp 8), none, 0, false⟩,
 ⟨(some 20), .move (.tmp 0), none, 0, false⟩,
 ⟨(some 21), .move (.tmp 9), none, 0, false⟩,
 ⟨(some 22), .indexAddr 14 (.tmp 20) (.tmp 21), none, 0, false⟩,
 ⟨(some 23), .loadN 14 (.tmp 22), none, 0, false⟩,
 ⟨(some 24), .move (.tmp 0), none, 0, false⟩,
 ⟨(some 25), .move (.tmp 8), none, 0, false⟩,
 ⟨(some 26), .indexAddr 14 (.tmp 24) (.tmp 25), none, 0, false⟩,
 ⟨(some 27), .loadN 14 (.tmp 26), none, 0, false⟩,
 ⟨(some 28), .indexAddr 14 (.tmp 16) (.tmp 17), none, 0, false⟩,
 ⟨none, .store 14 (.tmp 28) (.tmp 23), none, 0, true⟩,
 ⟨(some 18), .move (.tmp 0), none, 0, false⟩,
 ⟨(some 19), .move (.tmp 9), none, 0, false⟩,
 ⟨(some 29), .indexAddr 14 (.tmp 18) (.tmp 19), none, 1, false⟩,
 ⟨none, .store 14 (.tmp 29) (.tmp 27), none, 1, true⟩])
 (.seq (.region [⟨(some 30), .move (.tmp 8), none, 0, false⟩,
 ⟨(some 31), .bin .add (.tmp 30) (.const (.int .i64 1)), none, 0, false⟩,
 ⟨(some 8), .move (.tmp 31), none, 0, false⟩])
 (.region [⟨(some 32), .move (.tmp 9), none, 0, false⟩,
 ⟨(some 33), .bin .sub (.tmp 32) (.const (.int .i64 1)), none, 0, false⟩,
 ⟨(some 9), .move (.tmp 33), none, 0, false⟩])))))))))⟩

def L265 : LFunc := ⟨141, [.tmp 8],
 (.seq (.region [⟨(some 8), .move (.const (.bool false)), none, 0, false⟩])
 (.seq (.region [⟨(some 13), .move (.tmp 1), none, 0, false⟩,
 ⟨(some 14), .bin .add (.tmp 13) (.const (.int .i64 1)), none, 0, false⟩,
 ⟨(some 9), .move (.tmp 14), none, 0, false⟩])
 (.seq (.seq (.region [⟨(some 10), .move (.const (.int .i64 0)), none, 0, false⟩])
 (.block 0 (.loop (.seq (.seq (.region [⟨(some 15), .move (.tmp 10), none, 0, false⟩,
 ⟨(some 16), .bin .lss (.tmp 15) (.const (.int .i64 5)), none, 0, false⟩])
 (.cond (.tmp 16) .skip
 (.exit 0)))
 (.seq (.block 1 (.seq (.block 2 (.loop (.seq (.seq (.draw [⟨(some 19), .move (.tmp 9), none, 0, false⟩,
 ⟨(some 20), .move (.tmp 2), none, 0, false⟩,
 ⟨(some 21), .bin .lss (.tmp 19) (.tmp 20), none, 0, false⟩,
 ⟨(some 22), .move (.tmp 21), none, 0, false⟩,
 ⟨(some 23), .move (.tmp 3), (some (22, true)), 0, false⟩,
 ⟨(some 24), .move (.tmp 0), (some (22, true)), 0, false⟩,
 ⟨(some 25), .move (.tmp 9), (some (22, true)), 0, false⟩,
 ⟨(some 26), .indexAddr 14 (.tmp 24) (.tmp 25), (some (22, true)), 0, false⟩,
 ⟨(some 27), .loadN 14 (.tmp 26), (some (22, true)), 0, false⟩,
 ⟨(some 28), .move (.tmp 0), (some (22, true)), 0, false⟩,
 ⟨(some 29), .move (.tmp 9), (some (22, true)), 0, false⟩,
 ⟨(some 30), .bin .sub (.tmp 29) (.const (.int .i64 1)), (some (22, true)), 0, false⟩,
 ⟨(some 31), .indexAddr 14 (.tmp 28) (.tmp 30), (some (22, true)), 0, false⟩,
 ⟨(some 32), .loadN 14 (.tmp 31), (some (22, true)), 0, false⟩,
 ⟨(some 33), .call (.tmp 23) [(.tmp 27), (.tmp 32)], (some (22, true)), 0, true⟩,
 ⟨(some 34), .bin .lss (.tmp 33) (.const (.int .i64 0)), (some (22, true)), 1, false⟩,
 ⟨(some 35), .un .not (.tmp 34), (some (22, true)), 1, false⟩,
 ⟨(some 36), .pick (.tmp 22) (.tmp 35) (.const (.bool false)), none, 1, false⟩])
 (.cond (.tmp 36) .skip
 (.exit 2)))
 (.block 3 (.region [⟨(some 37), .move (.tmp 9), none, 0, false⟩,
 ⟨(some 38), .bin .add (.tmp 37) (.const (.int .i64 1)), none, 0, false⟩,
 ⟨(some 9), .move (.tmp 38), none, 0, false⟩])))))
 (.seq (.seq (.region [⟨(some 39), .move (.tmp 9), none, 0, false⟩,
 ⟨(some 40), .move (.tmp 2), none, 0, false⟩,
 ⟨(some 41), .bin .eql (.tmp 39) (.tmp 40), none, 0, false⟩])
 (.cond (.tmp 41) (.seq (.region [⟨(some 8), .move (.const (.bool true)), none, 0, false⟩])
 .ret)
 .skip))
 (.seq (.seq (.region [⟨(some 42), .move (.tmp 2), none, 0, false⟩,
 ⟨(some 43), .move (.tmp 1), none, 0, false⟩,
 ⟨(some 44), .bin .sub (.tmp 42) (.tmp 43), none, 0, false⟩,
 ⟨(some 45), .bin .lss (.tmp 44) (.const (.int .i64 50)), none, 0, false⟩])
 (.cond (.tmp 45) (.seq (.region [⟨(some 8), .move (.const (.bool false)), none, 0, false⟩])
 .ret)
 .skip))
 (.seq (.draw [⟨(some 46), .move (.tmp 0), none, 0, false⟩,
 ⟨(some 47), .move (.tmp 9), none, 0, false⟩,
 ⟨(some 51), .move (.tmp 0), none, 0, false⟩,
 ⟨(some 52), .move (.tmp 9), none, 0, false⟩,
 ⟨(some 53), .bin .sub (.tmp 52) (.const (.int .i64 1)), none, 0, false⟩,
 ⟨(some 54), .indexAddr 14 (.tmp 51) (.tmp 53), none, 0, false⟩,
 ⟨(some 55), .loadN 14 (.tmp 54), none, 0, false⟩,
 ⟨(some 56), .move (.tmp 0), none, 0, false⟩,
 ⟨(some 57), .move (.tmp 9), none, 0, false⟩,
 ⟨(some 58), .indexAddr 14 (.tmp 56) (.tmp 57), none, 0, false⟩,
 ⟨(some 59), .loadN 14 (.tmp 58), none, 0, false⟩,
 ⟨(some 60), .indexAddr 14 (.tmp 46) (.tmp 47), none, 0, false⟩,
 ⟨none, .store 14 (.tmp 60) (.tmp 55), none, 0, true⟩,
 ⟨(some 48), .move (.tmp 0), none, 0, false⟩,
 ⟨(some 49), .move (.tmp 9), none, 0, false⟩,
 ⟨(some 50), .bin .sub (.tmp 49) (.const (.int .i64 1)), none, 0, false⟩,
 ⟨(some 61), .indexAddr 14 (.tmp 48) (.tmp 50), none, 1, false⟩,
 ⟨none, .store 14 (.tmp 61) (.tmp 59), none, 1, true⟩])
 (.seq (.seq (.region [⟨(some 62), .move (.tmp 9), none, 0, false⟩,
 ⟨(some 63), .move (.tmp 1), none, 0, false⟩,
 ⟨(some 64), .bin .sub (.tmp 62) (.tmp 63), none, 0, false⟩,
 ⟨(some 65), .bin .geq (.tmp 64) (.const (.int .i64 2)), none, 0, false⟩])
 (.cond (.tmp 65) (.seq (.region [⟨(some 66), .move (.tmp 9), none, 0, false⟩,
 ⟨(some 67), .bin .sub (.tmp 66) (.const (.int .i64 1)), none, 0, false⟩,
 ⟨(some 11), .move (.tmp 67), none, 0, false⟩])
 (.block 4 (.loop (.seq (.seq (.region [⟨(some 68), .move (.tmp 11), none, 0, false⟩,
 ⟨(some 69), .bin .geq (.tmp 68) (.const (.int .i64 1)), none, 0, false⟩])
 (.cond (.tmp 69) .skip
 (.exit 4)))
 (.seq (.block 5 (.seq (.seq (.draw [⟨(some 72), .move (.tmp 3), none, 0, false⟩,
 ⟨(some 73), .move (.tmp 0), none, 0, false⟩,
 ⟨(some 74), .move (.tmp 11), none, 0, false⟩,
 ⟨(some 75), .indexAddr 14 (.tmp 73) (.tmp 74), none, 0, false⟩,
 ⟨(some 76), .loadN 14 (.tmp 75), none, 0, false⟩,
 ⟨(some 77), .move (.tmp 0), none, 0, false⟩,
 ⟨(some 78), .move (.tmp 11), none, 0, false⟩,
 ⟨(some 79), .bin .sub (.tmp 78) (.const (.int .i64 1)), none, 0, false⟩,
 ⟨(some 80), .indexAddr 14 (.tmp 77) (.tmp 79), none, 0, false⟩,
 ⟨(some 81), .loadN 14 (.tmp 80), none, 0, false⟩,
 ⟨(some 82), .call (.tmp 72) [(.tmp 76), (.tmp 81)], none, 0, true⟩,
 ⟨(some 83), .bin .lss (.tmp 82) (.const (.int .i64 0)), none, 1, false⟩,
 ⟨(some 84), .un .not (.tmp 83), none, 1, false⟩])
 (.cond (.tmp 84) (.exit 4)
 .skip))
 (.draw [⟨(some 85), .move (.tmp 0), none, 0, false⟩,
 ⟨(some 86), .move (.tmp 11), none, 0, false⟩,
 ⟨(some 90), .move (.tmp 0), none, 0, false⟩,
 ⟨(some 91), .move (.tmp 11), none, 0, false⟩,
 ⟨(some 92), .bin .sub (.tmp 91) (.const (.int .i64 1)), none, 0, false⟩,
 ⟨(some 93), .indexAddr 14 (.tmp 90) (.tmp 92), none, 0, false⟩,
 ⟨(some 94), .loadN 14 (.tmp 93), none, 0, false⟩,
 ⟨(some 95), .move (.tmp 0), none, 0, false⟩,
 ⟨(some 96), .move (.tmp 11), none, 0, false⟩,
 ⟨(some 97), .indexAddr 14 (.tmp 95) (.tmp 96), none, 0, false⟩,
 ⟨(some 98), .loadN 14 (.tmp 97), none, 0, false⟩,
 ⟨(some 99), .indexAddr 14 (.tmp 85) (.tmp 86), none, 0, false⟩,
 ⟨none, .store 14 (.tmp 99) (.tmp 94), none, 0, true⟩,
 ⟨(some 87), .move (.tmp 0), none, 0, false⟩,
 ⟨(some 88), .move (.tmp 11), none, 0, false⟩,
 ⟨(some 89), .bin .sub (.tmp 88) (.const (.int .i64 1)), none, 0, false⟩,
 ⟨(some 100), .indexAddr 14 (.tmp 87) (.tmp 89), none, 1, false⟩,
 ⟨none, .store 14 (.tmp 100) (.tmp 98), none, 1, true⟩])))
 (.region [⟨(some 70), .move (.tmp 11), none, 0, false⟩,
 ⟨(some 71), .bin .sub (.tmp 70) (.const (.int .i64 1)), none, 0, false⟩,
 ⟨(some 11), .move (.tmp 71), none, 0, false⟩]))))))
 .skip))
 (.seq (.region [⟨(some 101), .move (.tmp 2), none, 0, false⟩,
 ⟨(some 102), .move (.tmp 9), none, 0, false⟩,
 ⟨(some 103), .bin .sub (.tmp 101) (.tmp 102), none, 0, false⟩,
 ⟨(some 104), .bin .geq (.tmp 103) (.const (.int .i64 2)), none, 0, false⟩])
 (.cond (.tmp 104) (.seq (.region [⟨(some 105), .move (.tmp 9), none, 0, false⟩,
 ⟨(some 106), .bin .add (.tmp 105) (.const (.int .i64 1)), none, 0, false⟩,
 ⟨(some 12), .move (.tmp 106), none, 0, false⟩])
 (.block 6 (.loop (.seq (.seq (.region [⟨(some 107), .move (.tmp 12), none, 0, false⟩,
 ⟨(some 108), .move (.tmp 2), none, 0, false⟩,
 ⟨(some 109), .bin .lss (.tmp 107) (.tmp 108), none, 0, false⟩])
 (.cond (.tmp 109) .skip
 (.exit 6)))
 (.seq (.block 7 (.seq (.seq (.draw [⟨(some 112), .move (.tmp 3), none, 0, false⟩,
 ⟨(some 113), .move (.tmp 0), none, 0, false⟩,
 ⟨(some 114), .move (.tmp 12), none, 0, false⟩,
 ⟨(some 115), .indexAddr 14 (.tmp 113) (.tmp 114), none, 0, false⟩,
 ⟨(some 116), .loadN 14 (.tmp 115), none, 0, false⟩,
 ⟨(some 117), .move (.tmp 0), none, 0, false⟩,
 ⟨(some 118), .move (.tmp 12), none, 0, false⟩,
 ⟨(some 119), .bin .sub (.tmp 118) (.const (.int .i64 1)), none, 0, false⟩,
 ⟨(some 120), .indexAddr 14 (.tmp 117) (.tmp 119), none, 0, false⟩,
 ⟨(some 121), .loadN 14 (.tmp 120), none, 0, false⟩,
 ⟨(some 122), .call (.tmp 112) [(.tmp 116), (.tmp 121)], none, 0, true⟩,
 ⟨(some 123), .bin .lss (.tmp 122) (.const (.int .i64 0)), none, 1, false⟩,
 ⟨(some 124), .un .not (.tmp 123), none, 1, false⟩])
 (.cond (.tmp 124) (.exit 6)
 .skip))
 (.draw [⟨(some 125), .move (.tmp 0), none, 0, false⟩,
 ⟨(some 126), .move (.tmp 12), none, 0, false⟩,
 ⟨(some 130), .move (.tmp 0), none, 0, false⟩,
 ⟨(some 131), .move (.tmp 12), none, 0, false⟩,
 ⟨(some 132), .bin .sub (.tmp 131) (.const (.int .i64 1)), none, 0, false⟩,
 ⟨(some 133), .indexAddr 14 (.tmp 130) (.tmp 132), none, 0, false⟩,
 ⟨(some 134), .loadN 14 (.tmp 133), none, 0, false⟩,
 ⟨(some 135), .move (.tmp 0), none, 0, false⟩,
 ⟨(some 136), .move (.tmp 12), none, 0, false⟩,
 ⟨(some 137), .indexAddr 14 (.tmp 135) (.tmp 136), none, 0, false⟩,
 ⟨(some 138), .loadN 14 (.tmp 137), none, 0, false⟩,
 ⟨(some 139), .indexAddr 14 (.tmp 125) (.tmp 126), none, 0, false⟩,
 ⟨none, .store 14 (.tmp 139) (.tmp 134), none, 0, true⟩,
 ⟨(some 127), .move (.tmp 0), none, 0, false⟩,
 ⟨(some 128), .move (.tmp 12), none, 0, false⟩,
 ⟨(some 129), .bin .sub (.tmp 128) (.const (.int .i64 1)), none, 0, false⟩,
 ⟨(some 140), .indexAddr 14 (.tmp 127) (.tmp 129), none, 1, false⟩,
 ⟨none, .store 14 (.tmp 140) (.tmp 138), none, 1, true⟩])))
 (.region [⟨(some 110), .move (.tmp 12), none, 0, false⟩,
 ⟨(some 111), .bin .add (.tmp 110) (.const (.int .i64 1)), none, 0, false⟩,
 ⟨(some 12), .move (.tmp 111), none, 0, false⟩]))))))
 .skip))))))))
 (.region [⟨(some 17), .move (.tmp 10), none, 0, false⟩,
 ⟨(some 18), .bin .add (.tmp 17) (.const (.int .i64 1)), none, 0, false⟩,
 ⟨(some 10), .move (.tmp 18), none, 0, false⟩]))))))
 (.seq (.region [⟨(some 8), .move (.const (.bool false)), none, 0, false⟩])
 .ret))))⟩

def L266 : LFunc := ⟨90, [.tmp 10],
 (.seq (.region [⟨(some 10), .move (.const (.int .i64 0)), none, 0, false⟩])
 (.seq (.draw [⟨(some 13), .move (.tmp 0), none, 0, false⟩,
 ⟨(some 14), .move (.tmp 1), none, 0, false⟩,
 ⟨(some 17), .move (.tmp 0), none, 0, false⟩,
 ⟨(some 18), .move (.tmp 3), none, 0, false⟩,
 ⟨(some 19), .indexAddr 14 (.tmp 17) (.tmp 18), none, 0, false⟩,
 ⟨(some 20), .loadN 14 (.tmp 19), none, 0, false⟩,
 ⟨(some 21), .move (.tmp 0), none, 0, false⟩,
 ⟨(some 22), .move (.tmp 1), none, 0, false⟩,
 ⟨(some 23), .indexAddr 14 (.tmp 21) (.tmp 22), none, 0, false⟩,
 ⟨(some 24), .loadN 14 (.tmp 23), none, 0, false⟩,
 ⟨(some 25), .indexAddr 14 (.tmp 13) (.tmp 14), none, 0, false⟩,
 ⟨none, .store 14 (.tmp 25) (.tmp 20), none, 0, true⟩,
 ⟨(some 15), .move (.tmp 0), none, 0, false⟩,
 ⟨(some 16), .move (.tmp 3), none, 0, false⟩,
 ⟨(some 26), .indexAddr 14 (.tmp 15) (.tmp 16), none, 1, false⟩,
 ⟨none, .store 14 (.tmp 26) (.tmp 24), none, 1, true⟩])
 (.seq (.region [⟨(some 27), .move (.tmp 1), none, 0, false⟩,
 ⟨(some 28), .bin .add (.tmp 27) (.const (.int .i64 1)), none, 0, false⟩,
 ⟨(some 29), .move (.tmp 2), none, 0, false⟩,
 ⟨(some 30), .bin .sub (.tmp 29) (.const (.int .i64 1)), none, 0, false⟩,
 ⟨(some 11), .move (.tmp 28), none, 0, false⟩,
 ⟨(some 12), .move (.tmp 30), none, 0, false⟩])
 (.seq (.block 0 (.loop (.block 1 (.seq (.block 2 (.loop (.seq (.seq (.draw [⟨(some 31), .move (.tmp 11), none, 0, false⟩,
 ⟨(some 32), .move (.tmp 12), none, 0, false⟩,
 ⟨(some 33), .bin .leq (.tmp 31) (.tmp 32), none, 0, false⟩,
 ⟨(some 34), .move (.tmp 33), none, 0, false⟩,
 ⟨(some 35), .move (.tmp 4), (some (34, true)), 0, false⟩,
 ⟨(some 36), .move (.tmp 0), (some (34, true)), 0, false⟩,
 ⟨(some 37), .move (.tmp 1), (some (34, true)), 0, false⟩,
 ⟨(some 38), .indexAddr 14 (.tmp 36) (.tmp 37), (some (34, true)), 0, false⟩,
 ⟨(some 39), .loadN 14 (.tmp 38), (some (34, true)), 0, false⟩,
 ⟨(some 40), .move (.tmp 0), (some (34, true)), 0, false⟩,
 ⟨(some 41), .move (.tmp 11), (some (34, true)), 0, false⟩,
 ⟨(some 42), .indexAddr 14 (.tmp 40) (.tmp 41), (some (34, true)), 0, false⟩,
 ⟨(some 43), .loadN 14 (.tmp 42), (some (34, true)), 0, false⟩,
 ⟨(some 44), .call (.tmp 35) [(.tmp 39), (.tmp 43)], (some (34, true)), 0, true⟩,
 ⟨(some 45), .bin .lss (.tmp 44) (.const (.int .i64 0)), (some (34, true)), 1, false⟩,
 ⟨(some 46), .un .not (.tmp 45), (some (34, true)), 1, false⟩,
 ⟨(some 47), .pick (.tmp 34) (.tmp 46) (.const (.bool false)), none, 1, false⟩])
 (.cond (.tmp 47) .skip
 (.exit 2)))
 (.block 3 (.region [⟨(some 48), .move (.tmp 11), none, 0, false⟩,
 ⟨(some 49), .bin .add (.tmp 48) (.const (.int .i64 1)), none, 0, false⟩,
 ⟨(some 11), .move (.tmp 49), none, 0, false⟩])))))
 (.seq (.block 4 (.loop (.seq (.seq (.draw [⟨(some 50), .move (.tmp 11), none, 0, false⟩,
 ⟨(some 51), .move (.tmp 12), none, 0, false⟩,
 ⟨(some 52), .bin .leq (.tmp 50) (.tmp 51), none, 0, false⟩,
 ⟨(some 53), .move (.tmp 52), none, 0, false⟩,
 ⟨(some 54), .move (.tmp 4), (some (53, true)), 0, false⟩,
 ⟨(some 55), .move (.tmp 0), (some (53, true)), 0, false⟩,
 ⟨(some 56), .move (.tmp 1), (some (53, true)), 0, false⟩,
 ⟨(some 57), .indexAddr 14 (.tmp 55) (.tmp 56), (some (53, true)), 0, false⟩,
 ⟨(some 58), .loadN 14 (.tmp 57), (some (53, true)), 0, false⟩,
 ⟨(some 59), .move (.tmp 0), (some (53, true)), 0, false⟩,
 ⟨(some 60), .move (.tmp 12), (some (53, true)), 0, false⟩,
 ⟨(some 61), .indexAddr 14 (.tmp 59) (.tmp 60), (some (53, true)), 0, false⟩,
 ⟨(some 62), .loadN 14 (.tmp 61), (some (53, true)), 0, false⟩,
 ⟨(some 63), .call (.tmp 54) [(.tmp 58), (.tmp 62)], (some (53, true)), 0, true⟩,
 ⟨(some 64), .bin .lss (.tmp 63) (.const (.int .i64 0)), (some (53, true)), 1, false⟩,
 ⟨(some 65), .pick (.tmp 53) (.tmp 64) (.const (.bool false)), none, 1, false⟩])
 (.cond (.tmp 65) .skip
 (.exit 4)))
 (.block 5 (.region [⟨(some 66), .move (.tmp 12), none, 0, false⟩,
 ⟨(some 67), .bin .sub (.tmp 66) (.const (.int .i64 1)), none, 0, false⟩,
 ⟨(some 12), .move (.tmp 67), none, 0, false⟩])))))
 (.seq (.seq (.region [⟨(some 68), .move (.tmp 11), none, 0, false⟩,
 ⟨(some 69), .move (.tmp 12), none, 0, false⟩,
 ⟨(some 70), .bin .gtr (.tmp 68) (.tmp 69), none, 0, false⟩])
 (.cond (.tmp 70) (.exit 0)
 .skip))
 (.seq (.draw [⟨(some 71), .move (.tmp 0), none, 0, false⟩,
 ⟨(some 72), .move (.tmp 11), none, 0, false⟩,
 ⟨(some 75), .move (.tmp 0), none, 0, false⟩,
 ⟨(some 76), .move (.tmp 12), none, 0, false⟩,
 ⟨(some 77), .indexAddr 14 (.tmp 75) (.tmp 76), none, 0, false⟩,
 ⟨(some 78), .loadN 14 (.tmp 77), none, 0, false⟩,
 ⟨(some 79), .move (.tmp 0), none, 0, false⟩,
 ⟨(some 80), .move (.tmp 11), none, 0, false⟩,
 ⟨(some 81), .indexAddr 14 (.tmp 79) (.tmp 80), none, 0, false⟩,
 ⟨(some 82), .loadN 14 (.tmp 81), none, 0, false⟩,
 ⟨(some 83), .indexAddr 14 (.tmp 71) (.tmp 72), none, 0, false⟩,
 ⟨none, .store 14 (.tmp 83) (.tmp 78), none, 0, true⟩,
 ⟨(some 73), .move (.tmp 0), none, 0, false⟩,
 ⟨(some 74), .move (.tmp 12), none, 0, false⟩,
 ⟨(some 84), .indexAddr 14 (.tmp 73) (.tmp 74), none, 1, false⟩,
 ⟨none, .store 14 (.tmp 84) (.tmp 82), none, 1, true⟩])
 (.seq (.region [⟨(some 85), .move (.tmp 11), none, 0, false⟩,
 ⟨(some 86), .bin .add (.tmp 85) (.const (.int .i64 1)), none, 0, false⟩,
 ⟨(some 11), .move (.tmp 86), none, 0, false⟩])
 (.region [⟨(some 87), .move (.tmp 12), none, 0, false⟩,
 ⟨(some 88), .bin .sub (.tmp 87) (.const (.int .i64 1)), none, 0, false⟩,
 ⟨(some 12), .move (.tmp 88), none, 0, false⟩])))))))))
 (.seq (.region [⟨(some 89), .move (.tmp 11), none, 0, false⟩,
 ⟨(some 10), .move (.tmp 89), none, 0, false⟩])
 .ret)))))⟩

def L267 : LFunc := ⟨178, [.tmp 10, .tmp 11],
 (.seq (.region [⟨(some 10), .move (.const (.int .i64 0)), none, 0, false⟩,
 ⟨(some 11), .move (.const (.bool false)), none, 0, false⟩])
 (.seq (.draw [⟨(some 14), .move (.tmp 0), none, 0, false⟩,
 ⟨(some 15), .move (.tmp 1), none, 0, false⟩,
 ⟨(some 18), .move (.tmp 0), none, 0, false⟩,
 ⟨(some 19), .move (.tmp 3), none, 0, false⟩,
 ⟨(some 20), .indexAddr 14 (.tmp 18) (.tmp 19), none, 0, false⟩,
 ⟨(some 21), .loadN 14 (.tmp 20), none, 0, false⟩,
 ⟨(some 22), .move (.tmp 0), none, 0, false⟩,
 ⟨(some 23), .move (.tmp 1), none, 0, false⟩,
 ⟨(some 24), .indexAddr 14 (.tmp 22) (.tmp 23), none, 0, false⟩,
 ⟨(some 25), .loadN 14 (.tmp 24), none, 0, false⟩,
 ⟨(some 26), .indexAddr 14 (.tmp 14) (.tmp 15), none, 0, false⟩,
 ⟨none, .store 14 (.tmp 26) (.tmp 21), none, 0, true⟩,
 ⟨(some 16), .move (.tmp 0), none, 0, false⟩,
 ⟨(some 17), .move (.tmp 3), none, 0, false⟩,
 ⟨(some 27), .indexAddr 14 (.tmp 16) (.tmp 17), none, 1, false⟩,
 ⟨none, .store 14 (.tmp 27) (.tmp 25), none, 1, true⟩])
 (.seq (.region [⟨(some 28), .move (.tmp 1), none, 0, false⟩,
 ⟨(some 29), .bin .add (.tmp 28) (.const (.int .i64 1)), none, 0, false⟩,
 ⟨(some 30), .move (.tmp 2), none, 0, false⟩,
 ⟨(some 31), .bin .sub (.tmp 30) (.const (.int .i64 1)), none, 0, false⟩,
 ⟨(some 12), .move (.tmp 29), none, 0, false⟩,
 ⟨(some 13), .move (.tmp 31), none, 0, false⟩])
 (.seq (.block 0 (.loop (.seq (.seq (.draw [⟨(some 32), .move (.tmp 12), none, 0, false⟩,
 ⟨(some 33), .move (.tmp 13), none, 0, false⟩,
 ⟨(some 34), .bin .leq (.tmp 32) (.tmp 33), none, 0, false⟩,
 ⟨(some 35), .move (.tmp 34), none, 0, false⟩,
 ⟨(some 36), .move (.tmp 4), (some (35, true)), 0, false⟩,
 ⟨(some 37), .move (.tmp 0), (some (35, true)), 0, false⟩,
 ⟨(some 38), .move (.tmp 12), (some (35, true)), 0, false⟩,
 ⟨(some 39), .indexAddr 14 (.tmp 37) (.tmp 38), (some (35, true)), 0, false⟩,
 ⟨(some 40), .loadN 14 (.tmp 39), (some (35, true)), 0, false⟩,
 ⟨(some 41), .move (.tmp 0), (some (35, true)), 0, false⟩,
 ⟨(some 42), .move (.tmp 1), (some (35, true)), 0, false⟩,
 ⟨(some 43), .indexAddr 14 (.tmp 41) (.tmp 42), (some (35, true)), 0, false⟩,
 ⟨(some 44), .loadN 14 (.tmp 43), (some (35, true)), 0, false⟩,
 ⟨(some 45), .call (.tmp 36) [(.tmp 40), (.tmp 44)], (some (35, true)), 0, true⟩,
 ⟨(some 46), .bin .lss (.tmp 45) (.const (.int .i64 0)), (some (35, true)), 1, false⟩,
 ⟨(some 47), .pick (.tmp 35) (.tmp 46) (.const (.bool false)), none, 1, false⟩])
 (.cond (.tmp 47) .skip
 (.exit 0)))
 (.block 1 (.region [⟨(some 48), .move (.tmp 12), none, 0, false⟩,
 ⟨(some 49), .bin .add (.tmp 48) (.const (.int .i64 1)), none, 0, false⟩,
 ⟨(some 12), .move (.tmp 49), none, 0, false⟩])))))
 (.seq (.block 2 (.loop (.seq (.seq (.draw [⟨(some 50), .move (.tmp 12), none, 0, false⟩,
 ⟨(some 51), .move (.tmp 13), none, 0, false⟩,
 ⟨(some 52), .bin .leq (.tmp 50) (.tmp 51), none, 0, false⟩,
 ⟨(some 53), .move (.tmp 52), none, 0, false⟩,
 ⟨(some 54), .move (.tmp 4), (some (53, true)), 0, false⟩,
 ⟨(some 55), .move (.tmp 0), (some (53, true)), 0, false⟩,
 ⟨(some 56), .move (.tmp 13), (some (53, true)), 0, false⟩,
 ⟨(some 57), .indexAddr 14 (.tmp 55) (.tmp 56), (some (53, true)), 0, false⟩,
 ⟨(some 58), .loadN 14 (.tmp 57), (some (53, true)), 0, false⟩,
 ⟨(some 59), .move (.tmp 0), (some (53, true)), 0, false⟩,
 ⟨(some 60), .move (.tmp 1), (some (53, true)), 0, false⟩,
 ⟨(some 61), .indexAddr 14 (.tmp 59) (.tmp 60), (some (53, true)), 0, false⟩,
 ⟨(some 62), .loadN 14 (.tmp 61), (some (53, true)), 0, false⟩,
 ⟨(some 63), .call (.tmp 54) [(.tmp 58), (.tmp 62)], (some (53, true)), 0, true⟩,
 ⟨(some 64), .bin .lss (.tmp 63) (.const (.int .i64 0)), (some (53, true)), 1, false⟩,
 ⟨(some 65), .un .not (.tmp 64), (some (53, true)), 1, false⟩,
 ⟨(some 66), .pick (.tmp 53) (.tmp 65) (.const (.bool false)), none, 1, false⟩])
 (.cond (.tmp 66) .skip
 (.exit 2)))
 (.block 3 (.region [⟨(some 67), .move (.tmp 13), none, 0, false⟩,
 ⟨(some 68), .bin .sub (.tmp 67) (.const (.int .i64 1)), none, 0, false⟩,
 ⟨(some 13), .move (.tmp 68), none, 0, false⟩])))))
 (.seq (.seq (.region [⟨(some 69), .move (.tmp 12), none, 0, false⟩,
 ⟨(some 70), .move (.tmp 13), none, 0, false⟩,
 ⟨(some 71), .bin .gtr (.tmp 69) (.tmp 70), none, 0, false⟩])
 (.cond (.tmp 71) (.seq (.draw [⟨(some 72), .move (.tmp 0), none, 0, false⟩,
 ⟨(some 73), .move (.tmp 13), none, 0, false⟩,
 ⟨(some 76), .move (.tmp 0), none, 0, false⟩,
 ⟨(some 77), .move (.tmp 1), none, 0, false⟩,
 ⟨(some 78), .indexAddr 14 (.tmp 76) (.tmp 77), none, 0, false⟩,
 ⟨(some 79), .loadN 14 (.tmp 78), none, 0, false⟩,
 ⟨(some 80), .move (.tmp 0), none, 0, false⟩,
 ⟨(some 81), .move (.tmp 13), none, 0, false⟩,
 ⟨(some 82), .indexAddr 14 (.tmp 80) (.tmp 81), none, 0, false⟩,
 ⟨(some 83), .loadN 14 (.tmp 82), none, 0, false⟩,
 ⟨(some 84), .indexAddr 14 (.tmp 72) (.tmp 73), none, 0, false⟩,
 ⟨none, .store 14 (.tmp 84) (.tmp 79), none, 0, true⟩,
 ⟨(some 74), .move (.tmp 0), none, 0, false⟩,
 ⟨(some 75), .move (.tmp 1), none, 0, false⟩,
 ⟨(some 85), .indexAddr 14 (.tmp 74) (.tmp 75), none, 1, false⟩,
 ⟨none, .store 14 (.tmp 85) (.tmp 83), none, 1, true⟩])
 (.seq (.region [⟨(some 86), .move (.tmp 13), none, 0, false⟩,
 ⟨(some 10), .move (.tmp 86), none, 0, false⟩,
 ⟨(some 11), .move (.const (.bool true)), none, 0, false⟩])
 .ret))
 .skip))
 (.seq (.draw [⟨(some 87), .move (.tmp 0), none, 0, false⟩,
 ⟨(some 88), .move (.tmp 12), none, 0, false⟩,
 ⟨(some 91), .move (.tmp 0), none, 0, false⟩,
 ⟨(some 92), .move (.tmp 13), none, 0, false⟩,
 ⟨(some 93), .indexAddr 14 (.tmp 91) (.tmp 92), none, 0, false⟩,
 ⟨(some 94), .loadN 14 (.tmp 93), none, 0, false⟩,
 ⟨(some 95), .move (.tmp 0), none, 0, false⟩,
 ⟨(some 96), .move (.tmp 12), none, 0, false⟩,
 ⟨(some 97), .indexAddr 14 (.tmp 95) (.tmp 96), none, 0, false⟩,
 ⟨(some 98), .loadN 14 (.tmp 97), none, 0, false⟩,
 ⟨(some 99), .indexAddr 14 (.tmp 87) (.tmp 88), none, 0, false⟩,
 ⟨none, .store 14 (.tmp 99) (.tmp 94), none, 0, true⟩,
 ⟨(some 89), .move (.tmp 0), none, 0, false⟩,
 ⟨(some 90), .move (.tmp 13), none, 0, false⟩,
 ⟨(some 100), .indexAddr 14 (.tmp 89) (.tmp 90), none, 1, false⟩,
 ⟨none, .store 14 (.tmp 100) (.tmp 98), none, 1, true⟩])
 (.seq (.region [⟨(some 101), .move (.tmp 12), none, 0, false⟩,
 ⟨(some 102), .bin .add (.tmp 101) (.const (.int .i64 1)), none, 0, false⟩,
 ⟨(some 12), .move (.tmp 102), none, 0, false⟩])
 (.seq (.region [⟨(some 103), .move (.tmp 13), none, 0, false⟩,
 ⟨(some 104), .bin .sub (.tmp 103) (.const (.int .i64 1)), none, 0, false⟩,
 ⟨(some 13), .move (.tmp 104), none, 0, false⟩])
 (.seq (.block 4 (.loop (.block 5 (.seq (.block 6 (.loop (.seq (.seq (.draw [⟨(some 105), .move (.tmp 12), none, 0, false⟩,
 ⟨(some 106), .move (.tmp 13), none, 0, false⟩,
 ⟨(some 107), .bin .leq (.tmp 105) (.tmp 106), none, 0, false⟩,
 ⟨(some 108), .move (.tmp 107), none, 0, false⟩,
 ⟨(some 109), .move (.tmp 4), (some (108, true)), 0, false⟩,
 ⟨(some 110), .move (.tmp 0), (some (108, true)), 0, false⟩,
 ⟨(some 111), .move (.tmp 12), (some (108, true)), 0, false⟩,
 ⟨(some 112), .indexAddr 14 (.tmp 110) (.tmp 111), (some (108, true)), 0, false⟩,
 ⟨(some 113), .loadN 14 (.tmp 112), (some (108, true)), 0, false⟩,
 ⟨(some 114), .move (.tmp 0), (some (108, true)), 0, false⟩,
 ⟨(some 115), .move (.tmp 1), (some (108, true)), 0, false⟩,
 ⟨(some 116), .indexAddr 14 (.tmp 114) (.tmp 115), (some (108, true)), 0, false⟩,
 ⟨(some 117), .loadN 14 (.tmp 116), (some (108, true)), 0, false⟩,
 ⟨(some 118), .call (.tmp 109) [(.tmp 113), (.tmp 117)], (some (108, true)), 0, true⟩,
 ⟨(some 119), .bin .lss (.tmp 118) (.const (.int .i64 0)), (some (108, true)), 1, false⟩,
 ⟨(some 120), .pick (.tmp 108) (.tmp 119) (.const (.bool false)), none, 1, false⟩])
 (.cond (.tmp 120) .skip
 (.exit 6)))
 (.block 7 (.region [⟨(some 121), .move (.tmp 12), none, 0, false⟩,
 ⟨(some 122), .bin .add (.tmp 121) (.const (.int .i64 1)), none, 0, false⟩,
 ⟨(some 12), .move (.tmp 122), none, 0, false⟩])))))
 (.seq (.block 8 (.loop (.seq (.seq (.draw [⟨(some 123), .move (.tmp 12), none, 0, false⟩,
 ⟨(some 124), .move (.tmp 13), none, 0, false⟩,
 ⟨(some 125), .bin .leq (.tmp 123) (.tmp 124), none, 0, false⟩,
 ⟨(some 126), .move (.tmp 125), none, 0, false⟩,
 ⟨(some 127), .move (.tmp 4), (some (126, true)), 0, false⟩,
 ⟨(some 128), .move (.tmp 0), (some (126, true)), 0, false⟩,
 ⟨(some 129), .move (.tmp 13), (some (126, true)), 0, false⟩,
 ⟨(some 130), .indexAddr 14 (.tmp 128) (.tmp 129), (some (126, true)), 0, false⟩,
 ⟨(some 131), .loadN 14 (.tmp 130), (some (126, true)), 0, false⟩,
 ⟨(some 132), .move (.tmp 0), (some (126, true)), 0, false⟩,
 ⟨(some 133), .move (.tmp 1), (some (126, true)), 0, false⟩,
 ⟨(some 134), .indexAddr 14 (.tmp 132) (.tmp 133), (some (126, true)), 0, false⟩,
 ⟨(some 135), .loadN 14 (.tmp 134), (some (126, true)), 0, false⟩,
 ⟨(some 136), .call (.tmp 127) [(.tmp 131), (.tmp 135)], (some (126, true)), 0, true⟩,
 ⟨(some 137), .bin .lss (.tmp 136) (.const (.int .i64 0)), (some (126, true)), 1, false⟩,
 ⟨(some 138), .un .not (.tmp 137), (some (126, true)), 1, false⟩,
 ⟨(some 139), .pick (.tmp 126) (.tmp 138) (.const (.bool false)), none, 1, false⟩])
 (.cond (.tmp 139) .skip
 (.exit 8)))
 (.block 9 (.region [⟨(some 140), .move (.tmp 13), none, 0, false⟩,
 ⟨(some 141), .bin .sub (.tmp 140) (.const (.int .i64 1)), none, 0, false⟩,
 ⟨(some 13), .move (.tmp 141), none, 0, false⟩])))))
 (.seq (.seq (.region [⟨(some 142), .move (.tmp 12), none, 0, false⟩,
 ⟨(some 143), .move (.tmp 13), none, 0, false⟩,
 ⟨(some 144), .bin .gtr (.tmp 142) (.tmp 143), none, 0, false⟩])
 (.cond (.tmp 144) (.exit 4)
 .skip))
 (.seq (.draw [⟨(some 145), .move (.tmp 0), none, 0, false⟩,
 ⟨(some 146), .move (.tmp 12), none, 0, false⟩,
 ⟨(some 149), .move (.tmp 0), none, 0, false⟩,
 ⟨(some 150), .move (.tmp 13), none, 0, false⟩,
 ⟨(some 151), .indexAddr 14 (.tmp 149) (.tmp 150), none, 0, false⟩,
 ⟨(some 152), .loadN 14 (.tmp 151), none, 0, false⟩,
 ⟨(some 153), .move (.tmp 0), none, 0, false⟩,
 ⟨(some 154), .move (.tmp 12), none, 0, false⟩,
 ⟨(some 155), .indexAddr 14 (.tmp 153) (.tmp 154), none, 0, false⟩,
 ⟨(some 156), .loadN 14 (.tmp 155), none, 0, false⟩,
 ⟨(some 157), .indexAddr 14 (.tmp 145) (.tmp 146), none, 0, false⟩,
 ⟨none, .store 14 (.tmp 157) (.tmp 152), none, 0, true⟩,
 ⟨(some 147), .move (.tmp 0), none, 0, false⟩,
 ⟨(some 148), .move (.tmp 13), none, 0, false⟩,
 ⟨(some 158), .indexAddr 14 (.tmp 147) (.tmp 148), none, 1, false⟩,
 ⟨none, .store 14 (.tmp 158) (.tmp 156), none, 1, true⟩])
 (.seq (.region [⟨(some 159), .move (.tmp 12), none, 0, false⟩,
 ⟨(some 160), .bin .add (.tmp 159) (.const (.int .i64 1)), none, 0, false⟩,
 ⟨(some 12), .move (.tmp 160), none, 0, false⟩])
 (.region [⟨(some 161), .move (.tmp 13), none, 0, false⟩,
 ⟨(some 162), .bin .sub (.tmp 161) (.const (.int .i64 1)), none, 0, false⟩,
 ⟨(some 13), .move (.tmp 162), none, 0, false⟩])))))))))
 (.seq (.draw [⟨(some 163), .move (.tmp 0), none, 0, false⟩,
 ⟨(some 164), .move (.tmp 13), none, 0, false⟩,
 ⟨(some 167), .move (.tmp 0), none, 0, false⟩,
 ⟨(some 168), .move (.tmp 1), none, 0, false⟩,
 ⟨(some 169), .indexAddr 14 (.tmp 167) (.tmp 168), none, 0, false⟩,
 ⟨(some 170), .loadN 14 (.tmp 169), none, 0, false⟩,
 ⟨(some 171), .move (.tmp 0), none, 0, false⟩,
 ⟨(some 172), .move (.tmp 13), none, 0, false⟩,
 ⟨(some 173), .indexAddr 14 (.tmp 171) (.tmp 172), none, 0, false⟩,
 ⟨(some 174), .loadN 14 (.tmp 173), none, 0, false⟩,
 ⟨(some 175), .indexAddr 14 (.tmp 163) (.tmp 164), none, 0, false⟩,
 ⟨none, .store 14 (.tmp 175) (.tmp 170), none, 0, true⟩,
 ⟨(some 165), .move (.tmp 0), none, 0, false⟩,
 ⟨(some 166), .move (.tmp 1), none, 0, false⟩,
 ⟨(some 176), .indexAddr 14 (.tmp 165) (.tmp 166), none, 1, false⟩,
 ⟨none, .store 14 (.tmp 176) (.tmp 174), none, 1, true⟩])
 (.seq (.region [⟨(some 177), .move (.tmp 13), none, 0, false⟩,
 ⟨(some 10), .move (.tmp 177), none, 0, false⟩,
 ⟨(some 11), .move (.const (.bool false)), none, 0, false⟩])
 .ret))))))))))))⟩

def L268 : LFunc := ⟨19, [.tmp 2],
 (.seq (.region [⟨(some 2), .move (.const (.int .i64 0)), none, 0, false⟩])
 (.seq (.seq (.region [⟨(some 3), .move (.tmp 0), none, 0, false⟩,
 ⟨(some 4), .bin .geq (.tmp 3) (.const (.int .u32 65536)), none, 0, false⟩])
 (.cond (.tmp 4) (.seq (.region [⟨(some 5), .move (.tmp 0), none, 0, false⟩,
 ⟨(some 6), .bin .shr (.tmp 5) (.const (.int .u64 16)), none, 0, false⟩,
 ⟨(some 0), .move (.tmp 6), none, 0, false⟩])
 (.region [⟨(some 2), .move (.const (.int .i64 16)), none, 0, false⟩]))
 .skip))
 (.seq (.seq (.region [⟨(some 7), .move (.tmp 0), none, 0, false⟩,
 ⟨(some 8), .bin .geq (.tmp 7) (.const (.int .u32 256)), none, 0, false⟩])
 (.cond (.tmp 8) (.seq (.region [⟨(some 9), .move (.tmp 0), none, 0, false⟩,
 ⟨(some 10), .bin .shr (.tmp 9) (.const (.int .u64 8)), none, 0, false⟩,
 ⟨(some 0), .move (.tmp 10), none, 0, false⟩])
 (.region [⟨(some 11), .move (.tmp 2), none, 0, false⟩,
 ⟨(some 12), .bin .add (.tmp 11) (.const (.int .i64 8)), none, 0, false⟩,
 ⟨(some 2), .move (.tmp 12), none, 0, false⟩]))
 .skip))
 (.seq (.region [⟨(some 13), .move (.tmp 2), none, 0, false⟩,
 ⟨(some 14), .move (.tmp 0), none, 0, false⟩,
 ⟨(some 15), .conv (.int .u8) (.tmp 14), none, 0, false⟩,
 ⟨(some 16), .indexStr (.const (.string ⟨⟨[0, 1, 2, 2, 3, 3, 3, 3, 4, 4, 4, 4, 4, 4, 4, 4, 5, 5, 5, 5, 5, 5, 5, 5, 5, 5, 5, 5, 5, 5, 5, 5, 6, 6, 6, 6, 6, 6, 6, 6, 6, 6, 6, 6, 6, 6, 6, 6, 6, 6, 6, 6, 6, 6, 6, 6, 6, 6, 6, 6, 6, 6, 6, 6, 7, 7, 7, 7, 7, 7, 7, 7, 7, 7, 7, 7, 7, 7, 7, 7, 7, 7, 7, 7, 7, 7, 7, 7, 7, 7, 7, 7, 7, 7, 7, 7, 7, 7, 7, 7, 7, 7, 7, 7, 7, 7, 7, 7, 7, 7, 7, 7, 7, 7, 7, 7, 7, 7, 7, 7, 7, 7, 7, 7, 7, 7, 7, 7, 8, 8, 8, 8, 8, 8, 8, 8, 8, 8, 8, 8, 8, 8, 8, 8, 8, 8, 8, 8, 8, 8, 8, 8, 8, 8, 8, 8, 8, 8, 8, 8, 8, 8, 8, 8, 8, 8, 8, 8, 8, 8, 8, 8, 8, 8, 8, 8, 8, 8, 8, 8, 8, 8, 8, 8, 8, 8, 8, 8, 8, 8, 8, 8, 8, 8, 8, 8, 8, 8, 8, 8, 8, 8, 8, 8, 8, 8, 8, 8, 8, 8, 8, 8, 8, 8, 8, 8, 8, 8, 8, 8, 8, 8, 8, 8, 8, 8, 8, 8, 8, 8, 8, 8, 8, 8, 8, 8, 8, 8, 8, 8, 8, 8, 8, 8, 8, 8, 8, 8, 8, 8, 8, 8, 8, 8, 8, 8]⟩⟩)) (.tmp 15), none, 0, false⟩,
 ⟨(some 17), .conv (.int .i64) (.tmp 16), none, 0, false⟩,
 ⟨(some 18), .bin .add (.tmp 13) (.tmp 17), none, 0, false⟩,
 ⟨(some 2), .move (.tmp 18), none, 0, false⟩])
 .ret))))⟩

def L269 : LFunc := ⟨22, [.tmp 4],
 (.seq (.region [⟨(some 4), .move (.const (.int .u32 0)), none, 0, false⟩])
 (.seq (.region [⟨(some 8), .move (.tmp 0), none, 0, false⟩,
 ⟨(some 9), .un .xor (.tmp 8), none, 0, false⟩,
 ⟨(some 5), .move (.tmp 9), none, 0, false⟩])
 (.seq (.seq (.region [⟨(some 10), .move (.tmp 1), none, 0, false⟩,
 ⟨(some 11), .len false (.tmp 10), none, 0, false⟩,
 ⟨(some 12), .move (.const (.int .i64 0)), none, 0, false⟩])
 (.block 0 (.loop (.seq (.region [⟨(some 13), .bin .lss (.tmp 12) (.tmp 11), none, 0, false⟩])
 (.seq (.cond (.tmp 13) .skip
 (.exit 0))
 (.seq (.block 1 (.seq (.region [⟨(some 14), .indexAddr 1 (.tmp 10) (.tmp 12), none, 0, false⟩,
 ⟨(some 15), .load1 (.tmp 14), none, 0, false⟩,
 ⟨(some 7), .move (.tmp 15), none, 0, false⟩])
 (.region [⟨(some 16), .move (.tmp 5), none, 0, false⟩,
 ⟨(some 17), .move (.tmp 7), none, 0, false⟩,
 ⟨(some 18), .call (.func 292) [(.tmp 16), (.tmp 17)], none, 0, false⟩,
 ⟨(some 5), .move (.tmp 18), none, 0, false⟩])))
 (.region [⟨(some 19), .bin .add (.tmp 12) (.const (.int .i64 1)), none, 0, false⟩,
 ⟨(some 12), .move (.tmp 19), none, 0, false⟩])))))))
 (.seq (.region [⟨(some 20), .move (.tmp 5), none, 0, false⟩,
 ⟨(some 21), .un .xor (.tmp 20), none, 0, false⟩,
 ⟨(some 4), .move (.tmp 21), none, 0, false⟩])
 .ret))))⟩

def L270 : LFunc := ⟨19, [],
 (.seq (.region [⟨(some 4), .load1 (.tmp 1), none, 0, false⟩,
 ⟨(some 5), .len false (.tmp 4), none, 0, false⟩,
 ⟨(some 6), .bin .sub (.tmp 5) (.const (.int .i64 1)), none, 0, false⟩,
 ⟨(some 3), .move (.tmp 6), none, 0, false⟩])
 (.block 0 (.loop (.seq (.seq (.region [⟨(some 7), .move (.tmp 3), none, 0, false⟩,
 ⟨(some 8), .bin .geq (.tmp 7) (.const (.int .i64 0)), none, 0, false⟩])
 (.cond (.tmp 8) .skip
 (.exit 0)))
 (.seq (.block 1 (.seq (.region [⟨(some 11), .move (.tmp 0), none, 0, false⟩,
 ⟨(some 12), .move (.tmp 3), none, 0, false⟩,
 ⟨(some 13), .load1 (.tmp 1), none, 0, false⟩,
 ⟨(some 14), .move (.tmp 3), none, 0, false⟩,
 ⟨(some 15), .indexAddr 1 (.tmp 13) (.tmp 14), none, 0, false⟩,
 ⟨(some 16), .load1 (.tmp 15), none, 0, false⟩,
 ⟨(some 17), .call (.tmp 11) [(.tmp 12), (.tmp 16)], none, 0, false⟩,
 ⟨(some 18), .un .not (.tmp 17), none, 0, false⟩])
 (.cond (.tmp 18) .ret
 .skip)))
 (.region [⟨(some 9), .move (.tmp 3), none, 0, false⟩,
 ⟨(some 10), .bin .sub (.tmp 9) (.const (.int .i64 1)), none, 0, false⟩,
 ⟨(some 3), .move (.tmp 10), none, 0, false⟩]))))))⟩

def L271 : LFunc := ⟨18, [.cellN 4 64, .tmp 5],
 (.seq (.region [⟨(some 4), .alloc [(.int .u8 0), (.int .u8 0), (.int .u8 0), (.int .u8 0), (.int .u8 0), (.int .u8 0), (.int .u8 0), (.int .u8 0), (.int .u8 0), (.int .u8 0), (.int .u8 0), (.int .u8 0), (.int .u8 0), (.int .u8 0), (.int .u8 0), (.int .u8 0), (.int .u8 0), (.int .u8 0), (.int .u8 0), (.int .u8 0), (.int .u8 0), (.int .u8 0), (.int .u8 0), (.int .u8 0), (.int .u8 0), (.int .u8 0), (.int .u8 0), (.int .u8 0), (.int .u8 0), (.int .u8 0), (.int .u8 0), (.int .u8 0), (.int .u8 0), (.int .u8 0), (.int .u8 0), (.int .u8 0), (.int .u8 0), (.int .u8 0), (.int .u8 0), (.int .u8 0), (.int .u8 0), (.int .u8 0), (.int .u8 0), (.int .u8 0), (.int .u8 0), (.int .u8 0), (.int .u8 0), (.int .u8 0), (.int .u8 0), (.int .u8 0), (.int .u8 0), (.int .u8 0), (.int .u8 0), (.int .u8 0), (.int .u8 0), (.int .u8 0), (.int .u8 0), (.int .u8 0), (.int .u8 0), (.int .u8 0), (.int .u8 0), (.int .u8 0), (.int .u8 0), (.int .u8 0)] 262, none, 0, false⟩,
 ⟨(some 5), .move (.const (.int .i64 0)), none, 0, false⟩])
 (.seq (.seq (.region [⟨(some 6), .move (.tmp 0), none, 0, false⟩,
 ⟨(some 7), .move (.tmp 1), none, 0, false⟩,
 ⟨(some 8), .call (.func 218) [(.tmp 6), (.tmp 7)], none, 0, false⟩,
 ⟨(some 9), .un .not (.tmp 8), none, 0, false⟩])
 (.cond (.tmp 9) (.seq (.region [⟨(some 10), .build [(.int .u8 0), (.int .u8 0), (.int .u8 0), (.int .u8 0), (.int .u8 0), (.int .u8 0), (.int .u8 0), (.int .u8 0), (.int .u8 0), (.int .u8 0), (.int .u8 0), (.int .u8 0), (.int .u8 0), (.int .u8 0), (.int .u8 0), (.int .u8 0), (.int .u8 0), (.int .u8 0), (.int .u8 0), (.int .u8 0), (.int .u8 0), (.int .u8 0), (.int .u8 0), (.int .u8 0), (.int .u8 0), (.int .u8 0), (.int .u8 0), (.int .u8 0), (.int .u8 0), (.int .u8 0), (.int .u8 0), (.int .u8 0), (.int .u8 0), (.int .u8 0), (.int .u8 0), (.int .u8 0), (.int .u8 0), (.int .u8 0), (.int .u8 0), (.int .u8 0), (.int .u8 0), (.int .u8 0), (.int .u8 0), (.int .u8 0), (.int .u8 0), (.int .u8 0), (.int .u8 0), (.int .u8 0), (.int .u8 0), (.int .u8 0), (.int .u8 0), (.int .u8 0), (.int .u8 0), (.int .u8 0), (.int .u8 0), (.int .u8 0), (.int .u8 0), (.int .u8 0), (.int .u8 0), (.int .u8 0), (.int .u8 0), (.int .u8 0), (.int .u8 0), (.int .u8 0)] [], none, 0, false⟩,
 ⟨none, .store 64 (.tmp 4) (.tmp 10), none, 0, false⟩,
 ⟨(some 5), .move (.const (.int .i64 71)), none, 0, false⟩])
 .ret)
 .skip))
 (.seq (.region [⟨(some 11), .move (.tmp 0), none, 0, false⟩,
 ⟨(some 12), .nilCheck (.tmp 11), none, 0, false⟩,
 ⟨(some 13), .fieldAddr 0 (.tmp 12), none, 0, false⟩,
 ⟨(some 14), .load1 (.tmp 13), none, 0, false⟩,
 ⟨(some 15), .move (.tmp 1), none, 0, false⟩,
 ⟨(some 16), .indexAddr 64 (.tmp 14) (.tmp 15), none, 0, false⟩,
 ⟨(some 17), .loadN 64 (.tmp 16), none, 0, false⟩,
 ⟨none, .store 64 (.tmp 4) (.tmp 17), none, 0, false⟩,
 ⟨(some 5), .move (.const (.int .i64 0)), none, 0, false⟩])
 .ret)))⟩

def L272 : LFunc := ⟨19, [.tmp 2],
 (.seq (.region [⟨(some 2), .move (.const (.int .u64 0)), none, 0, false⟩])
 (.seq (.region [⟨(some 3), .move (.const (.int .u64 0)), none, 0, false⟩])
 (.seq (.seq (.region [⟨(some 6), .move (.tmp 0), none, 0, false⟩,
 ⟨(some 7), .len false (.tmp 6), none, 0, false⟩,
 ⟨(some 8), .move (.const (.int .i64 0)), none, 0, false⟩])
 (.block 0 (.loop (.seq (.region [⟨(some 9), .bin .lss (.tmp 8) (.tmp 7), none, 0, false⟩])
 (.seq (.cond (.tmp 9) .skip
 (.exit 0))
 (.seq (.block 1 (.seq (.region [⟨(some 10), .indexAddr 1 (.tmp 6) (.tmp 8), none, 0, false⟩,
 ⟨(some 11), .load1 (.tmp 10), none, 0, false⟩,
 ⟨(some 5), .move (.tmp 11), none, 0, false⟩])
 (.region [⟨(some 12), .move (.tmp 3), none, 0, false⟩,
 ⟨(some 13), .bin .shl (.tmp 12) (.const (.int .u64 8)), none, 0, false⟩,
 ⟨(some 14), .move (.tmp 5), none, 0, false⟩,
 ⟨(some 15), .conv (.int .u64) (.tmp 14), none, 0, false⟩,
 ⟨(some 16), .bin .or (.tmp 13) (.tmp 15), none, 0, false⟩,
 ⟨(some 3), .move (.tmp 16), none, 0, false⟩])))
 (.region [⟨(some 17), .bin .add (.tmp 8) (.const (.int .i64 1)), none, 0, false⟩,
 ⟨(some 8), .move (.tmp 17), none, 0, false⟩])))))))
 (.seq (.region [⟨(some 18), .move (.tmp 3), none, 0, false⟩,
 ⟨(some 2), .move (.tmp 18), none, 0, false⟩])
 .ret))))⟩

def L273 : LFunc := ⟨27, [.tmp 2, .tmp 3],
 (.seq (.region [⟨(some 2), .move (.const (.slice none 0 0)), none, 0, false⟩,
 ⟨(some 3), .move (.const (.bool false)), none, 0, false⟩])
 (.seq (.region [⟨(some 5), .move (.tmp 0), none, 0, false⟩,
 ⟨(some 6), .len false (.tmp 5), none, 0, false⟩,
 ⟨(some 7), .bin .sub (.tmp 6) (.const (.int .i64 4)), none, 0, false⟩,
 ⟨(some 4), .move (.tmp 7), none, 0, false⟩])
 (.seq (.seq (.draw [⟨(some 8), .move (.tmp 4), none, 0, false⟩,
 ⟨(some 9), .bin .lss (.tmp 8) (.const (.int .i64 0)), none, 0, false⟩,
 ⟨(some 10), .move (.tmp 9), none, 0, false⟩,
 ⟨(some 11), .move (.tmp 0), (some (10, false)), 0, false⟩,
 ⟨(some 12), .move (.tmp 4), (some (10, false)), 0, false⟩,
 ⟨(some 13), .slice 1 (.tmp 11) none (some (.tmp 12)) none, (some (10, false)), 0, false⟩,
 ⟨(some 14), .buildSlice 1 1 22 [(.slice none 0 0)] [(0, 1, (.tmp 13))], (some (10, false)), 0, false⟩,
 ⟨(some 15), .call (.func 246) [(.tmp 14)], (some (10, false)), 0, true⟩,
 ⟨(some 16), .call (.func 245) [(.tmp 15)], (some (10, false)), 1, true⟩,
 ⟨(some 17), .move (.tmp 0), (some (10, false)), 0, false⟩,
 ⟨(some 18), .move (.tmp 4), (some (10, false)), 0, false⟩,
 ⟨(some 19), .slice 1 (.tmp 17) (some (.tmp 18)) none none, (some (10, false)), 0, false⟩,
 ⟨(some 20), .call (.func 26) [(.tmp 16), (.tmp 19)], (some (10, false)), 2, true⟩,
 ⟨(some 21), .un .not (.tmp 20), (some (10, false)), 3, false⟩,
 ⟨(some 22), .pick (.tmp 10) (.const (.bool true)) (.tmp 21), none, 3, false⟩])
 (.cond (.tmp 22) (.seq (.region [⟨(some 2), .move (.const (.slice none 0 0)), none, 0, false⟩,
 ⟨(some 3), .move (.const (.bool false)), none, 0, false⟩])
 .ret)
 .skip))
 (.seq (.region [⟨(some 23), .move (.tmp 0), none, 0, false⟩,
 ⟨(some 24), .move (.tmp 4), none, 0, false⟩,
 ⟨(some 25), .slice 1 (.tmp 23) none (some (.tmp 24)) none, none, 0, false⟩,
 ⟨(some 26), .call (.func 61) [(.tmp 25)], none, 0, false⟩,
 ⟨(some 2), .move (.tmp 26), none, 0, false⟩,
 ⟨(some 3), .move (.const (.bool true)), none, 0, false⟩])
 .ret))))⟩

def L274 : LFunc := ⟨9, [.tmp 4],
 (.seq (.region [⟨(some 4), .move (.const (.bool false)), none, 0, false⟩])
 (.seq (.region [⟨(some 5), .move (.tmp 0), none, 0, false⟩,
 ⟨(some 6), .move (.tmp 1), none, 0, false⟩,
 ⟨(some 7), .call (.func 293) [(.tmp 5), (.tmp 6)], none, 0, false⟩,
 ⟨(some 8), .bin .geq (.tmp 7) (.const (.int .i64 0)), none, 0, false⟩,
 ⟨(some 4), .move (.tmp 8), none, 0, false⟩])
 .ret))⟩

def L275 : LFunc := ⟨5, [.tmp 2],
 (.seq (.region [⟨(some 2), .move (.const (.bool false)), none, 0, false⟩])
 (.seq (.region [⟨(some 3), .move (.tmp 0), none, 0, false⟩,
 ⟨(some 4), .bin .neq (.tmp 3) (.const (.int .u8 0)), none, 0, false⟩,
 ⟨(some 2), .move (.tmp 4), none, 0, false⟩])
 .ret))⟩

def L276 : LFunc := ⟨56, [.cellN 2 2, .cell1 3],
 (.seq (.region [⟨(some 2), .alloc [(.int .u64 0), (.slice none 0 0)] 154, none, 0, false⟩,
 ⟨(some 3), .alloc [(.int .i64 0)] 23, none, 0, false⟩])
 (.seq (.region [⟨(some 11), .move (.tmp 0), none, 0, false⟩,
 ⟨(some 12), .call (.func 223) [(.tmp 11)], none, 0, false⟩,
 ⟨(some 10), .move (.tmp 12), none, 0, false⟩,
 ⟨(some 13), .extract (.tmp 10) 0, none, 0, false⟩,
 ⟨(some 14), .extract (.tmp 10) 1, none, 0, false⟩,
 ⟨(some 4), .move (.tmp 13), none, 0, false⟩,
 ⟨(some 5), .move (.tmp 14), none, 0, false⟩])
 (.seq (.seq (.region [⟨(some 15), .move (.tmp 5), none, 0, false⟩,
 ⟨(some 16), .bin .neq (.tmp 15) (.const (.int .i64 0)), none, 0, false⟩,
 ⟨(some 17), .move (.tmp 16), none, 0, false⟩,
 ⟨(some 18), .move (.tmp 4), (some (17, false)), 0, false⟩,
 ⟨(some 19), .len false (.tmp 18), (some (17, false)), 0, false⟩,
 ⟨(some 20), .bin .rem (.tmp 19) (.const (.int .i64 11)), (some (17, false)), 0, false⟩,
 ⟨(some 21), .bin .neq (.tmp 20) (.const (.int .i64 1)), (some (17, false)), 0, false⟩,
 ⟨(some 22), .pick (.tmp 17) (.const (.bool true)) (.tmp 21), none, 0, false⟩])
 (.cond (.tmp 22) (.seq (.region [⟨(some 23), .build [(.int .u64 0), (.slice none 0 0)] [], none, 0, false⟩,
 ⟨none, .store 2 (.tmp 2) (.tmp 23), none, 0, false⟩,
 ⟨none, .store 1 (.tmp 3) (.const (.int .i64 131)), none, 0, false⟩])
 .ret)
 .skip))
 (.seq (.region [⟨(some 24), .move (.tmp 4), none, 0, false⟩,
 ⟨(some 25), .indexAddr 1 (.tmp 24) (.const (.int .i64 0)), none, 0, false⟩,
 ⟨(some 26), .load1 (.tmp 25), none, 0, false⟩,
 ⟨(some 27), .build [(.int .u64 0), (.slice none 0 0)] [(0, 1, (.tmp 26))], none, 0, false⟩,
 ⟨(some 6), .alloc [(.int .u64 0), (.slice none 0 0)] 154, none, 0, false⟩,
 ⟨none, .store 2 (.tmp 6) (.tmp 27), none, 0, false⟩])
 (.seq (.seq (.region [⟨(some 28), .move (.tmp 4), none, 0, false⟩,
 ⟨(some 29), .slice 1 (.tmp 28) (some (.const (.int .i64 1))) none none, none, 0, false⟩,
 ⟨(some 30), .call (.func 252) [(.tmp 29), (.const (.int .i64 11))], none, 0, false⟩])
 (.block 0 (.rangeFunc (.tmp 30) [31] (.region [⟨(some 7), .move (.tmp 31), none, 0, false⟩]) (.block 1 (.seq (.region [⟨(some 33), .move (.tmp 7), none, 0, false⟩,
 ⟨(some 34), .slice 1 (.tmp 33) none (some (.const (.int .i64 10))) none, none, 0, false⟩,
 ⟨(some 35), .call (.func 253) [(.tmp 34)], none, 0, false⟩,
 ⟨(some 32), .move (.tmp 35), none, 0, false⟩,
 ⟨(some 36), .extract (.tmp 32) 0, none, 0, false⟩,
 ⟨(some 37), .extract (.tmp 32) 1, none, 0, false⟩,
 ⟨(some 8), .alloc [(.int .i64 0), (.int .u8 0), (.int .u8 0), (.int .u8 0), (.int .u8 0), (.int .i64 0), (.int .u64 0), (.int .u64 0), (.int .u64 0), (.int .u64 0), (.int .u64 0), (.int .u64 0), (.int .u64 0)] 34, none, 0, false⟩,
 ⟨none, .store 13 (.tmp 8) (.tmp 36), none, 0, false⟩,
 ⟨(some 9), .move (.tmp 37), none, 0, false⟩])
 (.seq (.seq (.region [⟨(some 38), .move (.tmp 9), none, 0, false⟩,
 ⟨(some 39), .bin .neq (.tmp 38) (.const (.int .i64 0)), none, 0, false⟩])
 (.cond (.tmp 39) (.seq (.region [⟨(some 40), .build [(.int .u64 0), (.slice none 0 0)] [], none, 0, false⟩,
 ⟨none, .store 2 (.tmp 2) (.tmp 40), none, 0, false⟩,
 ⟨none, .store 1 (.tmp 3) (.const (.int .i64 131)), none, 0, false⟩])
 .ret)
 .skip))
 (.draw [⟨(some 41), .fieldAddr 1 (.tmp 6), none, 0, false⟩,
 ⟨(some 42), .load1 (.tmp 41), none, 0, false⟩,
 ⟨(some 43), .loadN 13 (.tmp 8), none, 0, false⟩,
 ⟨(some 44), .move (.tmp 7), none, 0, false⟩,
 ⟨(some 45), .indexAddr 1 (.tmp 44) (.const (.int .i64 10)), none, 0, false⟩,
 ⟨(some 46), .load1 (.tmp 45), none, 0, false⟩,
 ⟨(some 47), .build [(.int .i64 0), (.int .u8 0), (.int .u8 0), (.int .u8 0), (.int .u8 0), (.int .i64 0), (.int .u64 0), (.int .u64 0), (.int .u64 0), (.int .u64 0), (.int .u64 0), (.int .u64 0), (.int .u64 0), (.int .u64 0)] [(0, 13, (.tmp 43)), (13, 1, (.tmp 46))], none, 0, false⟩,
 ⟨(some 48), .buildSlice 1 14 185 [(.int .i64 0), (.int .u8 0), (.int .u8 0), (.int .u8 0), (.int .u8 0), (.int .i64 0), (.int .u64 0), (.int .u64 0), (.int .u64 0), (.int .u64 0), (.int .u64 0), (.int .u64 0), (.int .u64 0), (.int .u64 0)] [(0, 14, (.tmp 47))], none, 0, false⟩,
 ⟨(some 49), .append 14 88 185 [(.int .i64 0), (.int .u8 0), (.int .u8 0), (.int .u8 0), (.int .u8 0), (.int .i64 0), (.int .u64 0), (.int .u64 0), (.int .u64 0), (.int .u64 0), (.int .u64 0), (.int .u64 0), (.int .u64 0), (.int .u64 0)] false (.tmp 42) (.tmp 48), none, 0, true⟩,
 ⟨(some 50), .fieldAddr 1 (.tmp 6), none, 1, false⟩,
 ⟨none, .store 1 (.tmp 50) (.tmp 49), none, 1, true⟩])))))))
 (.seq (.seq (.region [⟨(some 51), .loadN 2 (.tmp 6), none, 0, false⟩,
 ⟨(some 52), .call (.func 161) [(.tmp 51)], none, 0, false⟩,
 ⟨(some 53), .un .not (.tmp 52), none, 0, false⟩])
 (.cond (.tmp 53) (.seq (.region [⟨(some 54), .build [(.int .u64 0), (.slice none 0 0)] [], none, 0, false⟩,
 ⟨none, .store 2 (.tmp 2) (.tmp 54), none, 0, false⟩,
 ⟨none, .store 1 (.tmp 3) (.const (.int .i64 131)), none, 0, false⟩])
 .ret)
 .skip))
 (.seq (.region [⟨(some 55), .loadN 2 (.tmp 6), none, 0, false⟩,
 ⟨none, .store 2 (.tmp 2) (.tmp 55), none, 0, false⟩,
 ⟨none, .store 1 (.tmp 3) (.const (.int .i64 0)), none, 0, false⟩])
 .ret)))))))⟩

def L277 : LFunc := ⟨31, [],
 (.seq (.region [⟨(some 4), .move (.const (.int .i64 0)), none, 0, false⟩])
 (.block 0 (.loop (.seq (.seq (.region [⟨(some 6), .move (.tmp 4), none, 0, false⟩,
 ⟨(some 7), .load1 (.tmp 1), none, 0, false⟩,
 ⟨(some 8), .len false (.tmp 7), none, 0, false⟩,
 ⟨(some 9), .bin .lss (.tmp 6) (.tmp 8), none, 0, false⟩])
 (.cond (.tmp 9) .skip
 (.exit 0)))
 (.seq (.block 1 (.seq (.draw [⟨(some 13), .load1 (.tmp 2), none, 0, false⟩,
 ⟨(some 14), .load1 (.tmp 1), none, 0, false⟩,
 ⟨(some 15), .move (.tmp 4), none, 0, false⟩,
 ⟨(some 16), .slice 1 (.tmp 14) (some (.tmp 15)) none none, none, 0, false⟩,
 ⟨(some 17), .len false (.tmp 16), none, 0, false⟩,
 ⟨(some 18), .min [(.tmp 13), (.tmp 17)], none, 0, false⟩,
 ⟨(some 5), .move (.tmp 18), none, 0, false⟩])
 (.seq (.region [⟨(some 19), .move (.tmp 0), none, 0, false⟩,
 ⟨(some 20), .load1 (.tmp 1), none, 0, false⟩,
 ⟨(some 21), .move (.tmp 4), none, 0, false⟩,
 ⟨(some 22), .move (.tmp 4), none, 0, false⟩,
 ⟨(some 23), .move (.tmp 5), none, 0, false⟩,
 ⟨(some 24), .bin .add (.tmp 22) (.tmp 23), none, 0, false⟩,
 ⟨(some 25), .move (.tmp 4), none, 0, false⟩,
 ⟨(some 26), .move (.tmp 5), none, 0, false⟩,
 ⟨(some 27), .bin .add (.tmp 25) (.tmp 26), none, 0, false⟩,
 ⟨(some 28), .slice 1 (.tmp 20) (some (.tmp 21)) (some (.tmp 24)) (some (.tmp 27)), none, 0, false⟩,
 ⟨(some 29), .call (.tmp 19) [(.tmp 28)], none, 0, false⟩,
 ⟨(some 30), .un .not (.tmp 29), none, 0, false⟩])
 (.cond (.tmp 30) .ret
 .skip))))
 (.region [⟨(some 10), .move (.tmp 4), none, 0, false⟩,
 ⟨(some 11), .load1 (.tmp 2), none, 0, false⟩,
 ⟨(some 12), .bin .add (.tmp 10) (.tmp 11), none, 0, false⟩,
 ⟨(some 4), .move (.tmp 12), none, 0, false⟩]))))))⟩

def L278 : LFunc := ⟨49, [],
 (.seq (.region [⟨(some 8), .move (.tmp 1), none, 0, false⟩,
 ⟨(some 9), .bin .add (.tmp 8) (.const (.int .i64 1)), none, 0, false⟩,
 ⟨(some 6), .move (.tmp 9), none, 0, false⟩])
 (.block 0 (.loop (.seq (.seq (.region [⟨(some 10), .move (.tmp 6), none, 0, false⟩,
 ⟨(some 11), .move (.tmp 2), none, 0, false⟩,
 ⟨(some 12), .bin .lss (.tmp 10) (.tmp 11), none, 0, false⟩])
 (.cond (.tmp 12) .skip
 (.exit 0)))
 (.seq (.block 1 (.seq (.region [⟨(some 15), .move (.tmp 6), none, 0, false⟩,
 ⟨(some 7), .move (.tmp 15), none, 0, false⟩])
 (.block 2 (.loop (.seq (.seq (.draw [⟨(some 16), .move (.tmp 7), none, 0, false⟩,
 ⟨(some 17), .move (.tmp 1), none, 0, false⟩,
 ⟨(some 18), .bin .gtr (.tmp 16) (.tmp 17), none, 0, false⟩,
 ⟨(some 19), .move (.tmp 18), none, 0, false⟩,
 ⟨(some 20), .move (.tmp 0), (some (19, true)), 0, false⟩,
 ⟨(some 21), .move (.tmp 7), (some (19, true)), 0, false⟩,
 ⟨(some 22), .indexAddr 1 (.tmp 20) (.tmp 21), (some (19, true)), 0, false⟩,
 ⟨(some 23), .load1 (.tmp 22), (some (19, true)), 0, false⟩,
 ⟨(some 24), .move (.tmp 0), (some (19, true)), 0, false⟩,
 ⟨(some 25), .move (.tmp 7), (some (19, true)), 0, false⟩,
 ⟨(some 26), .bin .sub (.tmp 25) (.const (.int .i64 1)), (some (19, true)), 0, false⟩,
 ⟨(some 27), .indexAddr 1 (.tmp 24) (.tmp 26), (some (19, true)), 0, false⟩,
 ⟨(some 28), .load1 (.tmp 27), (some (19, true)), 0, false⟩,
 ⟨(some 29), .call (.func 284) [(.tmp 23), (.tmp 28)], (some (19, true)), 0, true⟩,
 ⟨(some 30), .pick (.tmp 19) (.tmp 29) (.const (.bool false)), none, 1, false⟩])
 (.cond (.tmp 30) .skip
 (.exit 2)))
 (.seq (.block 3 (.draw [⟨(some 33), .move (.tmp 0), none, 0, false⟩,
 ⟨(some 34), .move (.tmp 7), none, 0, false⟩,
 ⟨(some 38), .move (.tmp 0), none, 0, false⟩,
 ⟨(some 39), .move (.tmp 7), none, 0, false⟩,
 ⟨(some 40), .bin .sub (.tmp 39) (.const (.int .i64 1)), none, 0, false⟩,
 ⟨(some 41), .indexAddr 1 (.tmp 38) (.tmp 40), none, 0, false⟩,
 ⟨(some 42), .load1 (.tmp 41), none, 0, false⟩,
 ⟨(some 43), .move (.tmp 0), none, 0, false⟩,
 ⟨(some 44), .move (.tmp 7), none, 0, false⟩,
 ⟨(some 45), .indexAddr 1 (.tmp 43) (.tmp 44), none, 0, false⟩,
 ⟨(some 46), .load1 (.tmp 45), none, 0, false⟩,
 ⟨(some 47), .indexAddr 1 (.tmp 33) (.tmp 34), none, 0, false⟩,
 ⟨none, .store 1 (.tmp 47) (.tmp 42), none, 0, true⟩,
 ⟨(some 35), .move (.tmp 0), none, 0, false⟩,
 ⟨(some 36), .move (.tmp 7), none, 0, false⟩,
 ⟨(some 37), .bin .sub (.tmp 36) (.const (.int .i64 1)), none, 0, false⟩,
 ⟨(some 48), .indexAddr 1 (.tmp 35) (.tmp 37), none, 1, false⟩,
 ⟨none, .store 1 (.tmp 48) (.tmp 46), none, 1, true⟩]))
 (.region [⟨(some 31), .move (.tmp 7), none, 0, false⟩,
 ⟨(some 32), .bin .sub (.tmp 31) (.const (.int .i64 1)), none, 0, false⟩,
 ⟨(some 7), .move (.tmp 32), none, 0, false⟩])))))))
 (.region [⟨(some 13), .move (.tmp 6), none, 0, false⟩,
 ⟨(some 14), .bin .add (.tmp 13) (.const (.int .i64 1)), none, 0, false⟩,
 ⟨(some 6), .move (.tmp 14), none, 0, false⟩]))))))⟩

def L279 : LFunc := ⟨56, [],
 (.seq (.region [⟨(some 11), .move (.tmp 1), none, 0, false⟩,
 ⟨(some 6), .move (.tmp 11), none, 0, false⟩])
 (.seq (.region [⟨(some 7), .move (.const (.int .i64 0)), none, 0, false⟩])
 (.seq (.region [⟨(some 12), .move (.tmp 2), none, 0, false⟩,
 ⟨(some 13), .move (.tmp 1), none, 0, false⟩,
 ⟨(some 14), .bin .sub (.tmp 12) (.tmp 13), none, 0, false⟩,
 ⟨(some 8), .move (.tmp 14), none, 0, false⟩])
 (.seq (.seq (.region [⟨(some 15), .move (.tmp 8), none, 0, false⟩,
 ⟨(some 16), .bin .sub (.tmp 15) (.const (.int .i64 1)), none, 0, false⟩,
 ⟨(some 17), .bin .quo (.tmp 16) (.const (.int .i64 2)), none, 0, false⟩,
 ⟨(some 9), .move (.tmp 17), none, 0, false⟩])
 (.block 0 (.loop (.seq (.seq (.region [⟨(some 18), .move (.tmp 9), none, 0, false⟩,
 ⟨(some 19), .bin .geq (.tmp 18) (.const (.int .i64 0)), none, 0, false⟩])
 (.cond (.tmp 19) .skip
 (.exit 0)))
 (.seq (.block 1 (.region [⟨(some 22), .move (.tmp 0), none, 0, false⟩,
 ⟨(some 23), .move (.tmp 9), none, 0, false⟩,
 ⟨(some 24), .move (.tmp 8), none, 0, false⟩,
 ⟨(some 25), .move (.tmp 6), none, 0, false⟩,
 ⟨(some 26), .call (.func 294) [(.tmp 22), (.tmp 23), (.tmp 24), (.tmp 25)], none, 0, false⟩]))
 (.region [⟨(some 20), .move (.tmp 9), none, 0, false⟩,
 ⟨(some 21), .bin .sub (.tmp 20) (.const (.int .i64 1)), none, 0, false⟩,
 ⟨(some 9), .move (.tmp 21), none, 0, false⟩]))))))
 (.seq (.region [⟨(some 27), .move (.tmp 8), none, 0, false⟩,
 ⟨(some 28), .bin .sub (.tmp 27) (.const (.int .i64 1)), none, 0, false⟩,
 ⟨(some 10), .move (.tmp 28), none, 0, false⟩])
 (.block 2 (.loop (.seq (.seq (.region [⟨(some 29), .move (.tmp 10), none, 0, false⟩,
 ⟨(some 30), .bin .geq (.tmp 29) (.const (.int .i64 0)), none, 0, false⟩])
 (.cond (.tmp 30) .skip
 (.exit 2)))
 (.seq (.block 3 (.seq (.draw [⟨(some 33), .move (.tmp 0), none, 0, false⟩,
 ⟨(some 34), .move (.tmp 6), none, 0, false⟩,
 ⟨(some 39), .move (.tmp 0), none, 0, false⟩,
 ⟨(some 40), .move (.tmp 6), none, 0, false⟩,
 ⟨(some 41), .move (.tmp 10), none, 0, false⟩,
 ⟨(some 42), .bin .add (.tmp 40) (.tmp 41), none, 0, false⟩,
 ⟨(some 43), .indexAddr 1 (.tmp 39) (.tmp 42), none, 0, false⟩,
 ⟨(some 44), .load1 (.tmp 43), none, 0, false⟩,
 ⟨(some 45), .move (.tmp 0), none, 0, false⟩,
 ⟨(some 46), .move (.tmp 6), none, 0, false⟩,
 ⟨(some 47), .indexAddr 1 (.tmp 45) (.tmp 46), none, 0, false⟩,
 ⟨(some 48), .load1 (.tmp 47), none, 0, false⟩,
 ⟨(some 49), .indexAddr 1 (.tmp 33) (.tmp 34), none, 0, false⟩,
 ⟨none, .store 1 (.tmp 49) (.tmp 44), none, 0, true⟩,
 ⟨(some 35), .move (.tmp 0), none, 0, false⟩,
 ⟨(some 36), .move (.tmp 6), none, 0, false⟩,
 ⟨(some 37), .move (.tmp 10), none, 0, false⟩,
 ⟨(some 38), .bin .add (.tmp 36) (.tmp 37), none, 0, false⟩,
 ⟨(some 50), .indexAddr 1 (.tmp 35) (.tmp 38), none, 1, false⟩,
 ⟨none, .store 1 (.tmp 50) (.tmp 48), none, 1, true⟩])
 (.region [⟨(some 51), .move (.tmp 0), none, 0, false⟩,
 ⟨(some 52), .move (.tmp 7), none, 0, false⟩,
 ⟨(some 53), .move (.tmp 10), none, 0, false⟩,
 ⟨(some 54), .move (.tmp 6), none, 0, false⟩,
 ⟨(some 55), .call (.func 294) [(.tmp 51), (.tmp 52), (.tmp 53), (.tmp 54)], none, 0, false⟩])))
 (.region [⟨(some 31), .move (.tmp 10), none, 0, false⟩,
 ⟨(some 32), .bin .sub (.tmp 31) (.const (.int .i64 1)), none, 0, false⟩,
 ⟨(some 10), .move (.tmp 32), none, 0, false⟩]))))))))))⟩

def L280 : LFunc := ⟨65, [],
 (.seq (.region [⟨(some 11), .move (.tmp 2), none, 0, false⟩,
 ⟨(some 12), .move (.tmp 1), none, 0, false⟩,
 ⟨(some 13), .bin .sub (.tmp 11) (.tmp 12), none, 0, false⟩,
 ⟨(some 6), .move (.tmp 13), none, 0, false⟩])
 (.seq (.region [⟨(some 14), .move (.tmp 6), none, 0, false⟩,
 ⟨(some 15), .bin .geq (.tmp 14) (.const (.int .i64 8)), none, 0, false⟩])
 (.cond (.tmp 15) (.seq (.region [⟨(some 16), .move (.tmp 6), none, 0, false⟩,
 ⟨(some 17), .conv (.int .u64) (.tmp 16), none, 0, false⟩,
 ⟨(some 7), .alloc [(.int .u64 0)] 371, none, 0, false⟩,
 ⟨none, .store 1 (.tmp 7) (.tmp 17), none, 0, false⟩])
 (.seq (.region [⟨(some 18), .move (.tmp 6), none, 0, false⟩,
 ⟨(some 19), .call (.func 288) [(.tmp 18)], none, 0, false⟩,
 ⟨(some 8), .move (.tmp 19), none, 0, false⟩])
 (.seq (.region [⟨(some 20), .move (.tmp 1), none, 0, false⟩,
 ⟨(some 21), .move (.tmp 6), none, 0, false⟩,
 ⟨(some 22), .bin .quo (.tmp 21) (.const (.int .i64 4)), none, 0, false⟩,
 ⟨(some 23), .bin .mul (.tmp 22) (.const (.int .i64 2)), none, 0, false⟩,
 ⟨(some 24), .bin .add (.tmp 20) (.tmp 23), none, 0, false⟩,
 ⟨(some 25), .bin .sub (.tmp 24) (.const (.int .i64 1)), none, 0, false⟩,
 ⟨(some 9), .move (.tmp 25), none, 0, false⟩])
 (.block 0 (.loop (.seq (.seq (.region [⟨(some 26), .move (.tmp 9), none, 0, false⟩,
 ⟨(some 27), .move (.tmp 1), none, 0, false⟩,
 ⟨(some 28), .move (.tmp 6), none, 0, false⟩,
 ⟨(some 29), .bin .quo (.tmp 28) (.const (.int .i64 4)), none, 0, false⟩,
 ⟨(some 30), .bin .mul (.tmp 29) (.const (.int .i64 2)), none, 0, false⟩,
 ⟨(some 31), .bin .add (.tmp 27) (.tmp 30), none, 0, false⟩,
 ⟨(some 32), .bin .add (.tmp 31) (.const (.int .i64 1)), none, 0, false⟩,
 ⟨(some 33), .bin .leq (.tmp 26) (.tmp 32), none, 0, false⟩])
 (.cond (.tmp 33) .skip
 (.exit 0)))
 (.seq (.block 1 (.seq (.region [⟨(some 36), .call (.func 289) [(.tmp 7)], none, 0, false⟩,
 ⟨(some 37), .move (.tmp 8), none, 0, false⟩,
 ⟨(some 38), .bin .sub (.tmp 37) (.const (.int .u64 1)), none, 0, false⟩,
 ⟨(some 39), .bin .and (.tmp 36) (.tmp 38), none, 0, false⟩,
 ⟨(some 40), .conv (.int .i64) (.tmp 39), none, 0, false⟩,
 ⟨(some 10), .move (.tmp 40), none, 0, false⟩])
 (.seq (.seq (.region [⟨(some 41), .move (.tmp 10), none, 0, false⟩,
 ⟨(some 42), .move (.tmp 6), none, 0, false⟩,
 ⟨(some 43), .bin .geq (.tmp 41) (.tmp 42), none, 0, false⟩])
 (.cond (.tmp 43) (.region [⟨(some 44), .move (.tmp 10), none, 0, false⟩,
 ⟨(some 45), .move (.tmp 6), none, 0, false⟩,
 ⟨(some 46), .bin .sub (.tmp 44) (.tmp 45), none, 0, false⟩,
 ⟨(some 10), .move (.tmp 46), none, 0, false⟩])
 .skip))
 (.draw [⟨(some 47), .move (.tmp 0), none, 0, false⟩,
 ⟨(some 48), .move (.tmp 9), none, 0, false⟩,
 ⟨(some 53), .move (.tmp 0), none, 0, false⟩,
 ⟨(some 54), .move (.tmp 1), none, 0, false⟩,
 ⟨(some 55), .move (.tmp 10), none, 0, false⟩,
 ⟨(some 56), .bin .add (.tmp 54) (.tmp 55), none, 0, false⟩,
 ⟨(some 57), .indexAddr 1 (.tmp 53) (.tmp 56), none, 0, false⟩,
 ⟨(some 58), .load1 (.tmp 57), none, 0, false⟩,
 ⟨(some 59), .move (.tmp 0), none, 0, false⟩,
 ⟨(some 60), .move (.tmp 9), none, 0, false⟩,
 ⟨(some 61), .indexAddr 1 (.tmp 59) (.tmp 60), none, 0, false⟩,
 ⟨(some 62), .load1 (.tmp 61), none, 0, false⟩,
 ⟨(some 63), .indexAddr 1 (.tmp 47) (.tmp 48), none, 0, false⟩,
 ⟨none, .store 1 (.tmp 63) (.tmp 58), none, 0, true⟩,
 ⟨(some 49), .move (.tmp 0), none, 0, false⟩,
 ⟨(some 50), .move (.tmp 1), none, 0, false⟩,
 ⟨(some 51), .move (.tmp 10), none, 0, false⟩,
 ⟨(some 52), .bin .add (.tmp 50) (.tmp 51), none, 0, false⟩,
 ⟨(some 64), .indexAddr 1 (.tmp 49) (.tmp 52), none, 1, false⟩,
 ⟨none, .store 1 (.tmp 64) (.tmp 62), none, 1, true⟩]))))
 (.region [⟨(some 34), .move (.tmp 9), none, 0, false⟩,
 ⟨(some 35), .bin .add (.tmp 34) (.const (.int .i64 1)), none, 0, false⟩,
 ⟨(some 9), .move (.tmp 35), none, 0, false⟩]))))))))
 .skip)))⟩

def L281 : LFunc := ⟨57, [.tmp 6, .tmp 7],
 (.seq (.region [⟨(some 6), .move (.const (.int .i64 0)), none, 0, false⟩,
 ⟨(some 7), .move (.const (.int .i64 0)), none, 0, false⟩])
 (.seq (.region [⟨(some 13), .move (.tmp 2), none, 0, false⟩,
 ⟨(some 14), .move (.tmp 1), none, 0, false⟩,
 ⟨(some 15), .bin .sub (.tmp 13) (.tmp 14), none, 0, false⟩,
 ⟨(some 8), .move (.tmp 15), none, 0, false⟩])
 (.seq (.region [⟨(some 9), .alloc [(.int .i64 0)] 3, none, 0, false⟩])
 (.seq (.region [⟨(some 16), .move (.tmp 1), none, 0, false⟩,
 ⟨(some 17), .move (.tmp 8), none, 0, false⟩,
 ⟨(some 18), .bin .quo (.tmp 17) (.const (.int .i64 4)), none, 0, false⟩,
 ⟨(some 19), .bin .mul (.tmp 18) (.const (.int .i64 1)), none, 0, false⟩,
 ⟨(some 20), .bin .add (.tmp 16) (.tmp 19), none, 0, false⟩,
 ⟨(some 10), .move (.tmp 20), none, 0, false⟩])
 (.seq (.region [⟨(some 21), .move (.tmp 1), none, 0, false⟩,
 ⟨(some 22), .move (.tmp 8), none, 0, false⟩,
 ⟨(some 23), .bin .quo (.tmp 22) (.const (.int .i64 4)), none, 0, false⟩,
 ⟨(some 24), .bin .mul (.tmp 23) (.const (.int .i64 2)), none, 0, false⟩,
 ⟨(some 25), .bin .add (.tmp 21) (.tmp 24), none, 0, false⟩,
 ⟨(some 11), .move (.tmp 25), none, 0, false⟩])
 (.seq (.region [⟨(some 26), .move (.tmp 1), none, 0, false⟩,
 ⟨(some 27), .move (.tmp 8), none, 0, false⟩,
 ⟨(some 28), .bin .quo (.tmp 27) (.const (.int .i64 4)), none, 0, false⟩,
 ⟨(some 29), .bin .mul (.tmp 28) (.const (.int .i64 3)), none, 0, false⟩,
 ⟨(some 30), .bin .add (.tmp 26) (.tmp 29), none, 0, false⟩,
 ⟨(some 12), .move (.tmp 30), none, 0, false⟩])
 (.seq (.seq (.region [⟨(some 31), .move (.tmp 8), none, 0, false⟩,
 ⟨(some 32), .bin .geq (.tmp 31) (.const (.int .i64 8)), none, 0, false⟩])
 (.cond (.tmp 32) (.seq (.seq (.region [⟨(some 33), .move (.tmp 8), none, 0, false⟩,
 ⟨(some 34), .bin .geq (.tmp 33) (.const (.int .i64 50)), none, 0, false⟩])
 (.cond (.tmp 34) (.seq (.region [⟨(some 35), .move (.tmp 0), none, 0, false⟩,
 ⟨(some 36), .move (.tmp 10), none, 0, false⟩,
 ⟨(some 37), .call (.func 295) [(.tmp 35), (.tmp 36), (.tmp 9)], none, 0, false⟩,
 ⟨(some 10), .move (.tmp 37), none, 0, false⟩])
 (.seq (.region [⟨(some 38), .move (.tmp 0), none, 0, false⟩,
 ⟨(some 39), .move (.tmp 11), none, 0, false⟩,
 ⟨(some 40), .call (.func 295) [(.tmp 38), (.tmp 39), (.tmp 9)], none, 0, false⟩,
 ⟨(some 11), .move (.tmp 40), none, 0, false⟩])
 (.region [⟨(some 41), .move (.tmp 0), none, 0, false⟩,
 ⟨(some 42), .move (.tmp 12), none, 0, false⟩,
 ⟨(some 43), .call (.func 295) [(.tmp 41), (.tmp 42), (.tmp 9)], none, 0, false⟩,
 ⟨(some 12), .move (.tmp 43), none, 0, false⟩])))
 .skip))
 (.region [⟨(some 44), .move (.tmp 0), none, 0, false⟩,
 ⟨(some 45), .move (.tmp 10), none, 0, false⟩,
 ⟨(some 46), .move (.tmp 11), none, 0, false⟩,
 ⟨(some 47), .move (.tmp 12), none, 0, false⟩,
 ⟨(some 48), .call (.func 296) [(.tmp 44), (.tmp 45), (.tmp 46), (.tmp 47), (.tmp 9)], none, 0, false⟩,
 ⟨(some 11), .move (.tmp 48), none, 0, false⟩]))
 .skip))
 (.seq (.region [⟨(some 49), .load1 (.tmp 9), none, 0, false⟩])
 (.block 0 (.seq (.region [⟨(some 52), .bin .eql (.tmp 49) (.const (.int .i64 0)), none, 0, false⟩,
 ⟨(some 51), .move (.tmp 52), none, 0, false⟩])
 (.cond (.tmp 51) (.seq (.region [⟨(some 53), .move (.tmp 11), none, 0, false⟩,
 ⟨(some 6), .move (.tmp 53), none, 0, false⟩,
 ⟨(some 7), .move (.const (.int .i64 1)), none, 0, false⟩])
 .ret)
 (.seq (.region [⟨(some 55), .bin .eql (.tmp 49) (.const (.int .i64 12)), none, 0, false⟩,
 ⟨(some 54), .move (.tmp 55), none, 0, false⟩])
 (.cond (.tmp 54) (.seq (.region [⟨(some 56), .move (.tmp 11), none, 0, false⟩,
 ⟨(some 6), .move (.tmp 56), none, 0, false⟩,
 ⟨(some 7), .move (.const (.int .i64 2)), none, 0, false⟩])
 .ret)
 (.seq (.region [⟨(some 50), .move (.tmp 11), none, 0, false⟩,
 ⟨(some 6), .move (.tmp 50), none, 0, false⟩,
 ⟨(some 7), .move (.const (.int .i64 0)), none, 0, false⟩])
 .ret))))))))))))))⟩

def L282 : LFunc := ⟨32, [],
 (.seq (.region [⟨(some 8), .move (.tmp 1), none, 0, false⟩,
 ⟨(some 6), .move (.tmp 8), none, 0, false⟩])
 (.seq (.region [⟨(some 9), .move (.tmp 2), none, 0, false⟩,
 ⟨(some 10), .bin .sub (.tmp 9) (.const (.int .i64 1)), none, 0, false⟩,
 ⟨(some 7), .move (.tmp 10), none, 0, false⟩])
 (.block 0 (.loop (.seq (.seq (.region [⟨(some 11), .move (.tmp 6), none, 0, false⟩,
 ⟨(some 12), .move (.tmp 7), none, 0, false⟩,
 ⟨(some 13), .bin .lss (.tmp 11) (.tmp 12), none, 0, false⟩])
 (.cond (.tmp 13) .skip
 (.exit 0)))
 (.block 1 (.seq (.draw [⟨(some 14), .move (.tmp 0), none, 0, false⟩,
 ⟨(some 15), .move (.tmp 6), none, 0, false⟩,
 ⟨(some 18), .move (.tmp 0), none, 0, false⟩,
 ⟨(some 19), .move (.tmp 7), none, 0, false⟩,
 ⟨(some 20), .indexAddr 1 (.tmp 18) (.tmp 19), none, 0, false⟩,
 ⟨(some 21), .load1 (.tmp 20), none, 0, false⟩,
 ⟨(some 22), .move (.tmp 0), none, 0, false⟩,
 ⟨(some 23), .move (.tmp 6), none, 0, false⟩,
 ⟨(some 24), .indexAddr 1 (.tmp 22) (.tmp 23), none, 0, false⟩,
 ⟨(some 25), .load1 (.tmp 24), none, 0, false⟩,
 ⟨(some 26), .indexAddr 1 (.tmp 14) (.tmp 15), none, 0, false⟩,
 ⟨none, .store 1 (.tmp 26) (.tmp 21), none, 0, true⟩,
 ⟨(some 16), .move (.tmp 0), none, 0, false⟩,
 ⟨(some 17), .move (.tmp 7), none, 0, false⟩,
 ⟨(some 27), .indexAddr 1 (.tmp 16) (.tmp 17), none, 1, false⟩,
 ⟨none, .store 1 (.tmp 27) (.tmp 25), none, 1, true⟩])
 (.seq (.region [⟨(some 28), .move (.tmp 6), none, 0, false⟩,
 ⟨(some 29), .bin .add (.tmp 28) (.const (.int .i64 1)), none, 0, false⟩,
 ⟨(some 6), .move (.tmp 29), none, 0, false⟩])
 (.region [⟨(some 30), .move (.tmp 7), none, 0, false⟩,
 ⟨(some 31), .bin .sub (.tmp 30) (.const (.int .i64 1)), none, 0, false⟩,
 ⟨(some 7), .move (.tmp 31), none, 0, false⟩])))))))))⟩

def L283 : LFunc := ⟨133, [.tmp 6],
 (.seq (.region [⟨(some 6), .move (.const (.bool false)), none, 0, false⟩])
 (.seq (.region [⟨(some 11), .move (.tmp 1), none, 0, false⟩,
 ⟨(some 12), .bin .add (.tmp 11) (.const (.int .i64 1)), none, 0, false⟩,
 ⟨(some 7), .move (.tmp 12), none, 0, false⟩])
 (.seq (.seq (.region [⟨(some 8), .move (.const (.int .i64 0)), none, 0, false⟩])
 (.block 0 (.loop (.seq (.seq (.region [⟨(some 13), .move (.tmp 8), none, 0, false⟩,
 ⟨(some 14), .bin .lss (.tmp 13) (.const (.int .i64 5)), none, 0, false⟩])
 (.cond (.tmp 14) .skip
 (.exit 0)))
 (.seq (.block 1 (.seq (.block 2 (.loop (.seq (.seq (.draw [⟨(some 17), .move (.tmp 7), none, 0, false⟩,
 ⟨(some 18), .move (.tmp 2), none, 0, false⟩,
 ⟨(some 19), .bin .lss (.tmp 17) (.tmp 18), none, 0, false⟩,
 ⟨(some 20), .move (.tmp 19), none, 0, false⟩,
 ⟨(some 21), .move (.tmp 0), (some (20, true)), 0, false⟩,
 ⟨(some 22), .move (.tmp 7), (some (20, true)), 0, false⟩,
 ⟨(some 23), .indexAddr 1 (.tmp 21) (.tmp 22), (some (20, true)), 0, false⟩,
 ⟨(some 24), .load1 (.tmp 23), (some (20, true)), 0, false⟩,
 ⟨(some 25), .move (.tmp 0), (some (20, true)), 0, false⟩,
 ⟨(some 26), .move (.tmp 7), (some (20, true)), 0, false⟩,
 ⟨(some 27), .bin .sub (.tmp 26) (.const (.int .i64 1)), (some (20, true)), 0, false⟩,
 ⟨(some 28), .indexAddr 1 (.tmp 25) (.tmp 27), (some (20, true)), 0, false⟩,
 ⟨(some 29), .load1 (.tmp 28), (some (20, true)), 0, false⟩,
 ⟨(some 30), .call (.func 284) [(.tmp 24), (.tmp 29)], (some (20, true)), 0, true⟩,
 ⟨(some 31), .un .not (.tmp 30), (some (20, true)), 1, false⟩,
 ⟨(some 32), .pick (.tmp 20) (.tmp 31) (.const (.bool false)), none, 1, false⟩])
 (.cond (.tmp 32) .skip
 (.exit 2)))
 (.block 3 (.region [⟨(some 33), .move (.tmp 7), none, 0, false⟩,
 ⟨(some 34), .bin .add (.tmp 33) (.const (.int .i64 1)), none, 0, false⟩,
 ⟨(some 7), .move (.tmp 34), none, 0, false⟩])))))
 (.seq (.seq (.region [⟨(some 35), .move (.tmp 7), none, 0, false⟩,
 ⟨(some 36), .move (.tmp 2), none, 0, false⟩,
 ⟨(some 37), .bin .eql (.tmp 35) (.tmp 36), none, 0, false⟩])
 (.cond (.tmp 37) (.seq (.region [⟨(some 6), .move (.const (.bool true)), none, 0, false⟩])
 .ret)
 .skip))
 (.seq (.seq (.region [⟨(some 38), .move (.tmp 2), none, 0, false⟩,
 ⟨(some 39), .move (.tmp 1), none, 0, false⟩,
 ⟨(some 40), .bin .sub (.tmp 38) (.tmp 39), none, 0, false⟩,
 ⟨(some 41), .bin .lss (.tmp 40) (.const (.int .i64 50)), none, 0, false⟩])
 (.cond (.tmp 41) (.seq (.region [⟨(some 6), .move (.const (.bool false)), none, 0, false⟩])
 .ret)
 .skip))
 (.seq (.draw [⟨(some 42), .move (.tmp 0), none, 0, false⟩,
 ⟨(some 43), .move (.tmp 7), none, 0, false⟩,
 ⟨(some 47), .move (.tmp 0), none, 0, false⟩,
 ⟨(some 48), .move (.tmp 7), none, 0, false⟩,
 ⟨(some 49), .bin .sub (.tmp 48) (.const (.int .i64 1)), none, 0, false⟩,
 ⟨(some 50), .indexAddr 1 (.tmp 47) (.tmp 49), none, 0, false⟩,
 ⟨(some 51), .load1 (.tmp 50), none, 0, false⟩,
 ⟨(some 52), .move (.tmp 0), none, 0, false⟩,
 ⟨(some 53), .move (.tmp 7), none, 0, false⟩,
 ⟨(some 54), .indexAddr 1 (.tmp 52) (.tmp 53), none, 0, false⟩,
 ⟨(some 55), .load1 (.tmp 54), none, 0, false⟩,
 ⟨(some 56), .indexAddr 1 (.tmp 42) (.tmp 43), none, 0, false⟩,
 ⟨none, .store 1 (.tmp 56) (.tmp 51), none, 0, true⟩,
 ⟨(some 44), .move (.tmp 0), none, 0, false⟩,
 ⟨(some 45), .move (.tmp 7), none, 0, false⟩,
 ⟨(some 46), .bin .sub (.tmp 45) (.const (.int .i64 1)), none, 0, false⟩,
 ⟨(some 57), .indexAddr 1 (.tmp 44) (.tmp 46), none, 1, false⟩,
 ⟨none, .store 1 (.tmp 57) (.tmp 55), none, 1, true⟩])
 (.seq (.seq (.region [⟨(some 58), .move (.tmp 7), none, 0, false⟩,
 ⟨(some 59), .move (.tmp 1), none, 0, false⟩,
 ⟨(some 60), .bin .sub (.tmp 58) (.tmp 59), none, 0, false⟩,
 ⟨(some 61), .bin .geq (.tmp 60) (.const (.int .i64 2)), none, 0, false⟩])
 (.cond (.tmp 61) (.seq (.region [⟨(some 62), .move (.tmp 7), none, 0, false⟩,
 ⟨(some 63), .bin .sub (.tmp 62) (.const (.int .i64 1)), none, 0, false⟩,
 ⟨(some 9), .move (.tmp 63), none, 0, false⟩])
 (.block 4 (.loop (.seq (.seq (.region [⟨(some 64), .move (.tmp 9), none, 0, false⟩,
 ⟨(some 65), .bin .geq (.tmp 64) (.const (.int .i64 1)), none, 0, false⟩])
 (.cond (.tmp 65) .skip
 (.exit 4)))
 (.seq (.block 5 (.seq (.seq (.draw [⟨(some 68), .move (.tmp 0), none, 0, false⟩,
 ⟨(some 69), .move (.tmp 9), none, 0, false⟩,
 ⟨(some 70), .indexAddr 1 (.tmp 68) (.tmp 69), none, 0, false⟩,
 ⟨(some 71), .load1 (.tmp 70), none, 0, false⟩,
 ⟨(some 72), .move (.tmp 0), none, 0, false⟩,
 ⟨(some 73), .move (.tmp 9), none, 0, false⟩,
 ⟨(some 74), .bin .sub (.tmp 73) (.const (.int .i64 1)), none, 0, false⟩,
 ⟨(some 75), .indexAddr 1 (.tmp 72) (.tmp 74), none, 0, false⟩,
 ⟨(some 76), .load1 (.tmp 75), none, 0, false⟩,
 ⟨(some 77), .call (.func 284) [(.tmp 71), (.tmp 76)], none, 0, true⟩,
 ⟨(some 78), .un .not (.tmp 77), none, 1, false⟩])
 (.cond (.tmp 78) (.exit 4)
 .skip))
 (.draw [⟨(some 79), .move (.tmp 0), none, 0, false⟩,
 ⟨(some 80), .move (.tmp 9), none, 0, false⟩,
 ⟨(some 84), .move (.tmp 0), none, 0, false⟩,
 ⟨(some 85), .move (.tmp 9), none, 0, false⟩,
 ⟨(some 86), .bin .sub (.tmp 85) (.const (.int .i64 1)), none, 0, false⟩,
 ⟨(some 87), .indexAddr 1 (.tmp 84) (.tmp 86), none, 0, false⟩,
 ⟨(some 88), .load1 (.tmp 87), none, 0, false⟩,
 ⟨(some 89), .move (.tmp 0), none, 0, false⟩,
 ⟨(some 90), .move (.tmp 9), none, 0, false⟩,
 ⟨(some 91), .indexAddr 1 (.tmp 89) (.tmp 90), none, 0, false⟩,
 ⟨(some 92), .load1 (.tmp 91), none, 0, false⟩,
 ⟨(some 93), .indexAddr 1 (.tmp 79) (.tmp 80), none, 0, false⟩,
 ⟨none, .store 1 (.tmp 93) (.tmp 88), none, 0, true⟩,
 ⟨(some 81), .move (.tmp 0), none, 0, false⟩,
 ⟨(some 82), .move (.tmp 9), none, 0, false⟩,
 ⟨(some 83), .bin .sub (.tmp 82) (.const (.int .i64 1)), none, 0, false⟩,
 ⟨(some 94), .indexAddr 1 (.tmp 81) (.tmp 83), none, 1, false⟩,
 ⟨none, .store 1 (.tmp 94) (.tmp 92), none, 1, true⟩])))
 (.region [⟨(some 66), .move (.tmp 9), none, 0, false⟩,
 ⟨(some 67), .bin .sub (.tmp 66) (.const (.int .i64 1)), none, 0, false⟩,
 ⟨(some 9), .move (.tmp 67), none, 0, false⟩]))))))
 .skip))
 (.seq (.region [⟨(some 95), .move (.tmp 2), none, 0, false⟩,
 ⟨(some 96), .move (.tmp 7), none, 0, false⟩,
 ⟨(some 97), .bin .sub (.tmp 95) (.tmp 96), none, 0, false⟩,
 ⟨(some 98), .bin .geq (.tmp 97) (.const (.int .i64 2)), none, 0, false⟩])
 (.cond (.tmp 98) (.seq (.region [⟨(some 99), .move (.tmp 7), none, 0, false⟩,
 ⟨(some 100), .bin .add (.tmp 99) (.const (.int .i64 1)), none, 0, false⟩,
 ⟨(some 10), .move (.tmp 100), none, 0, false⟩])
 (.block 6 (.loop (.seq (.seq (.region [⟨(some 101), .move (.tmp 10), none, 0, false⟩,
 ⟨(some 102), .move (.tmp 2), none, 0, false⟩,
 ⟨(some 103), .bin .lss (.tmp 101) (.tmp 102), none, 0, false⟩])
 (.cond (.tmp 103) .skip
 (.exit 6)))
 (.seq (.block 7 (.seq (.seq (.draw [⟨(some 106), .move (.tmp 0), none, 0, false⟩,
 ⟨(some 107), .move (.tmp 10), none, 0, false⟩,
 ⟨(some 108), .indexAddr 1 (.tmp 106) (.tmp 107), none, 0, false⟩,
 ⟨(some 109), .load1 (.tmp 108), none, 0, false⟩,
 ⟨(some 110), .move (.tmp 0), none, 0, false⟩,
 ⟨(some 111), .move (.tmp 10), none, 0, false⟩,
 ⟨(some 112), .bin .sub (.tmp 111) (.const (.int .i64 1)), none, 0, false⟩,
 ⟨(some 113), .indexAddr 1 (.tmp 110) (.tmp 112), none, 0, false⟩,
 ⟨(some 114), .load1 (.tmp 113), none, 0, false⟩,
 ⟨(some 115), .call (.func 284) [(.tmp 109), (.tmp 114)], none, 0, true⟩,
 ⟨(some 116), .un .not (.tmp 115), none, 1, false⟩])
 (.cond (.tmp 116) (.exit 6)
 .skip))
 (.draw [⟨(some 117), .move (.tmp 0), none, 0, false⟩,
 ⟨(some 118), .move (.tmp 10), none, 0, false⟩,
 ⟨(some 122), .move (.tmp 0), none, 0, false⟩,
 ⟨(some 123), .move (.tmp 10), none, 0, false⟩,
 ⟨(some 124), .bin .sub (.tmp 123) (.const (.int .i64 1)), none, 0, false⟩,
 ⟨(some 125), .indexAddr 1 (.tmp 122) (.tmp 124), none, 0, false⟩,
 ⟨(some 126), .load1 (.tmp 125), none, 0, false⟩,
 ⟨(some 127), .move (.tmp 0), none, 0, false⟩,
 ⟨(some 128), .move (.tmp 10), none, 0, false⟩,
 ⟨(some 129), .indexAddr 1 (.tmp 127) (.tmp 128), none, 0, false⟩,
 ⟨(some 130), .load1 (.tmp 129), none, 0, false⟩,
 ⟨(some 131), .indexAddr 1 (.tmp 117) (.tmp 118), none, 0, false⟩,
 ⟨none, .store 1 (.tmp 131) (.tmp 126), none, 0, true⟩,
 ⟨(some 119), .move (.tmp 0), none, 0, false⟩,
 ⟨(some 120), .move (.tmp 10), none, 0, false⟩,
 ⟨(some 121), .bin .sub (.tmp 120) (.const (.int .i64 1)), none, 0, false⟩,
 ⟨(some 132), .indexAddr 1 (.tmp 119) (.tmp 121), none, 1, false⟩,
 ⟨none, .store 1 (.tmp 132) (.tmp 130), none, 1, true⟩])))
 (.region [⟨(some 104), .move (.tmp 10), none, 0, false⟩,
 ⟨(some 105), .bin .add (.tmp 104) (.const (.int .i64 1)), none, 0, false⟩,
 ⟨(some 10), .move (.tmp 105), none, 0, false⟩]))))))
 .skip))))))))
 (.region [⟨(some 15), .move (.tmp 8), none, 0, false⟩,
 ⟨(some 16), .bin .add (.tmp 15) (.const (.int .i64 1)), none, 0, false⟩,
 ⟨(some 8), .move (.tmp 16), none, 0, false⟩]))))))
 (.seq (.region [⟨(some 6), .move (.const (.bool false)), none, 0, false⟩])
 .ret))))⟩

def L284 : LFunc := ⟨17, [.tmp 4],
 (.seq (.region [⟨(some 4), .move (.const (.bool false)), none, 0, false⟩])
 (.seq (.region [⟨(some 5), .move (.tmp 0), none, 0, false⟩,
 ⟨(some 6), .call (.func 244) [(.tmp 5)], none, 0, false⟩,
 ⟨(some 7), .move (.tmp 6), none, 0, false⟩,
 ⟨(some 8), .move (.tmp 1), (some (7, true)), 0, false⟩,
 ⟨(some 9), .call (.func 244) [(.tmp 8)], (some (7, true)), 0, false⟩,
 ⟨(some 10), .un .not (.tmp 9), (some (7, true)), 0, false⟩,
 ⟨(some 11), .pick (.tmp 7) (.tmp 10) (.const (.bool false)), none, 0, false⟩,
 ⟨(some 12), .move (.tmp 11), none, 0, false⟩,
 ⟨(some 13), .move (.tmp 0), (some (12, false)), 0, false⟩,
 ⟨(some 14), .move (.tmp 1), (some (12, false)), 0, false⟩,
 ⟨(some 15), .bin .lss (.tmp 13) (.tmp 14), (some (12, false)), 0, false⟩,
 ⟨(some 16), .pick (.tmp 12) (.const (.bool true)) (.tmp 15), none, 0, false⟩,
 ⟨(some 4), .move (.tmp 16), none, 0, false⟩])
 .ret))⟩

def L285 : LFunc := ⟨84, [.tmp 8],
 (.seq (.region [⟨(some 8), .move (.const (.int .i64 0)), none, 0, false⟩])
 (.seq (.draw [⟨(some 11), .move (.tmp 0), none, 0, false⟩,
 ⟨(some 12), .move (.tmp 1), none, 0, false⟩,
 ⟨(some 15), .move (.tmp 0), none, 0, false⟩,
 ⟨(some 16), .move (.tmp 3), none, 0, false⟩,
 ⟨(some 17), .indexAddr 1 (.tmp 15) (.tmp 16), none, 0, false⟩,
 ⟨(some 18), .load1 (.tmp 17), none, 0, false⟩,
 ⟨(some 19), .move (.tmp 0), none, 0, false⟩,
 ⟨(some 20), .move (.tmp 1), none, 0, false⟩,
 ⟨(some 21), .indexAddr 1 (.tmp 19) (.tmp 20), none, 0, false⟩,
 ⟨(some 22), .load1 (.tmp 21), none, 0, false⟩,
 ⟨(some 23), .indexAddr 1 (.tmp 11) (.tmp 12), none, 0, false⟩,
 ⟨none, .store 1 (.tmp 23) (.tmp 18), none, 0, true⟩,
 ⟨(some 13), .move (.tmp 0), none, 0, false⟩,
 ⟨(some 14), .move (.tmp 3), none, 0, false⟩,
 ⟨(some 24), .indexAddr 1 (.tmp 13) (.tmp 14), none, 1, false⟩,
 ⟨none, .store 1 (.tmp 24) (.tmp 22), none, 1, true⟩])
 (.seq (.region [⟨(some 25), .move (.tmp 1), none, 0, false⟩,
 ⟨(some 26), .bin .add (.tmp 25) (.const (.int .i64 1)), none, 0, false⟩,
 ⟨(some 27), .move (.tmp 2), none, 0, false⟩,
 ⟨(some 28), .bin .sub (.tmp 27) (.const (.int .i64 1)), none, 0, false⟩,
 ⟨(some 9), .move (.tmp 26), none, 0, false⟩,
 ⟨(some 10), .move (.tmp 28), none, 0, false⟩])
 (.seq (.block 0 (.loop (.block 1 (.seq (.block 2 (.loop (.seq (.seq (.draw [⟨(some 29), .move (.tmp 9), none, 0, false⟩,
 ⟨(some 30), .move (.tmp 10), none, 0, false⟩,
 ⟨(some 31), .bin .leq (.tmp 29) (.tmp 30), none, 0, false⟩,
 ⟨(some 32), .move (.tmp 31), none, 0, false⟩,
 ⟨(some 33), .move (.tmp 0), (some (32, true)), 0, false⟩,
 ⟨(some 34), .move (.tmp 1), (some (32, true)), 0, false⟩,
 ⟨(some 35), .indexAddr 1 (.tmp 33) (.tmp 34), (some (32, true)), 0, false⟩,
 ⟨(some 36), .load1 (.tmp 35), (some (32, true)), 0, false⟩,
 ⟨(some 37), .move (.tmp 0), (some (32, true)), 0, false⟩,
 ⟨(some 38), .move (.tmp 9), (some (32, true)), 0, false⟩,
 ⟨(some 39), .indexAddr 1 (.tmp 37) (.tmp 38), (some (32, true)), 0, false⟩,
 ⟨(some 40), .load1 (.tmp 39), (some (32, true)), 0, false⟩,
 ⟨(some 41), .call (.func 284) [(.tmp 36), (.tmp 40)], (some (32, true)), 0, true⟩,
 ⟨(some 42), .un .not (.tmp 41), (some (32, true)), 1, false⟩,
 ⟨(some 43), .pick (.tmp 32) (.tmp 42) (.const (.bool false)), none, 1, false⟩])
 (.cond (.tmp 43) .skip
 (.exit 2)))
 (.block 3 (.region [⟨(some 44), .move (.tmp 9), none, 0, false⟩,
 ⟨(some 45), .bin .add (.tmp 44) (.const (.int .i64 1)), none, 0, false⟩,
 ⟨(some 9), .move (.tmp 45), none, 0, false⟩])))))
 (.seq (.block 4 (.loop (.seq (.seq (.draw [⟨(some 46), .move (.tmp 9), none, 0, false⟩,
 ⟨(some 47), .move (.tmp 10), none, 0, false⟩,
 ⟨(some 48), .bin .leq (.tmp 46) (.tmp 47), none, 0, false⟩,
 ⟨(some 49), .move (.tmp 48), none, 0, false⟩,
 ⟨(some 50), .move (.tmp 0), (some (49, true)), 0, false⟩,
 ⟨(some 51), .move (.tmp 1), (some (49, true)), 0, false⟩,
 ⟨(some 52), .indexAddr 1 (.tmp 50) (.tmp 51), (some (49, true)), 0, false⟩,
 ⟨(some 53), .load1 (.tmp 52), (some (49, true)), 0, false⟩,
 ⟨(some 54), .move (.tmp 0), (some (49, true)), 0, false⟩,
 ⟨(some 55), .move (.tmp 10), (some (49, true)), 0, false⟩,
 ⟨(some 56), .indexAddr 1 (.tmp 54) (.tmp 55), (some (49, true)), 0, false⟩,
 ⟨(some 57), .load1 (.tmp 56), (some (49, true)), 0, false⟩,
 ⟨(some 58), .call (.func 284) [(.tmp 53), (.tmp 57)], (some (49, true)), 0, true⟩,
 ⟨(some 59), .pick (.tmp 49) (.tmp 58) (.const (.bool false)), none, 1, false⟩])
 (.cond (.tmp 59) .skip
 (.exit 4)))
 (.block 5 (.region [⟨(some 60), .move (.tmp 10), none, 0, false⟩,
 ⟨(some 61), .bin .sub (.tmp 60) (.const (.int .i64 1)), none, 0, false⟩,
 ⟨(some 10), .move (.tmp 61), none, 0, false⟩])))))
 (.seq (.seq (.region [⟨(some 62), .move (.tmp 9), none, 0, false⟩,
 ⟨(some 63), .move (.tmp 10), none, 0, false⟩,
 ⟨(some 64), .bin .gtr (.tmp 62) (.tmp 63), none, 0, false⟩])
 (.cond (.tmp 64) (.exit 0)
 .skip))
 (.seq (.draw [⟨(some 65), .move (.tmp 0), none, 0, false⟩,
 ⟨(some 66), .move (.tmp 9), none, 0, false⟩,
 ⟨(some 69), .move (.tmp 0), none, 0, false⟩,
 ⟨(some 70), .move (.tmp 10), none, 0, false⟩,
 ⟨(some 71), .indexAddr 1 (.tmp 69) (.tmp 70), none, 0, false⟩,
 ⟨(some 72), .load1 (.tmp 71), none, 0, false⟩,
 ⟨(some 73), .move (.tmp 0), none, 0, false⟩,
 ⟨(some 74), .move (.tmp 9), none, 0, false⟩,
 ⟨(some 75), .indexAddr 1 (.tmp 73) (.tmp 74), none, 0, false⟩,
 ⟨(some 76), .load1 (.tmp 75), none, 0, false⟩,
 ⟨(some 77), .indexAddr 1 (.tmp 65) (.tmp 66), none, 0, false⟩,
 ⟨none, .store 1 (.tmp 77) (.tmp 72), none, 0, true⟩,
 ⟨(some 67), .move (.tmp 0), none, 0, false⟩,
 ⟨(some 68), .move (.tmp 10), none, 0, false⟩,
 ⟨(some 78), .indexAddr 1 (.tmp 67) (.tmp 68), none, 1, false⟩,
 ⟨none, .store 1 (.tmp 78) (.tmp 76), none, 1, true⟩])
 (.seq (.region [⟨(some 79), .move (.tmp 9), none, 0, false⟩,
 ⟨(some 80), .bin .add (.tmp 79) (.const (.int .i64 1)), none, 0, false⟩,
 ⟨(some 9), .move (.tmp 80), none, 0, false⟩])
 (.region [⟨(some 81), .move (.tmp 10), none, 0, false⟩,
 ⟨(some 82), .bin .sub (.tmp 81) (.const (.int .i64 1)), none, 0, false⟩,
 ⟨(some 10), .move (.tmp 82), none, 0, false⟩])))))))))
 (.seq (.region [⟨(some 83), .move (.tmp 9), none, 0, false⟩,
 ⟨(some 8), .move (.tmp 83), none, 0, false⟩])
 .ret)))))⟩

def L286 : LFunc := ⟨168, [.tmp 8, .tmp 9],
 (.seq (.region [⟨(some 8), .move (.const (.int .i64 0)), none, 0, false⟩,
 ⟨(some 9), .move (.const (.bool false)), none, 0, false⟩])
 (.seq (.draw [⟨(some 12), .move (.tmp 0), none, 0, false⟩,
 ⟨(some 13), .move (.tmp 1), none, 0, false⟩,
 ⟨(some 16), .move (.tmp 0), none, 0, false⟩,
 ⟨(some 17), .move (.tmp 3), none, 0, false⟩,
 ⟨(some 18), .indexAddr 1 (.tmp 16) (.tmp 17), none, 0, false⟩,
 ⟨(some 19), .load1 (.tmp 18), none, 0, false⟩,
 ⟨(some 20), .move (.tmp 0), none, 0, false⟩,
 ⟨(some 21), .move (.tmp 1), none, 0, false⟩,
 ⟨(some 22), .indexAddr 1 (.tmp 20) (.tmp 21), none, 0, false⟩,
 ⟨(some 23), .load1 (.tmp 22), none, 0, false⟩,
 ⟨(some 24), .indexAddr 1 (.tmp 12) (.tmp 13), none, 0, false⟩,
 ⟨none, .store 1 (.tmp 24) (.tmp 19), none, 0, true⟩,
 ⟨(some 14), .move (.tmp 0), none, 0, false⟩,
 ⟨(some 15), .move (.tmp 3), none, 0, false⟩,
 ⟨(some 25), .indexAddr 1 (.tmp 14) (.tmp 15), none, 1, false⟩,
 ⟨none, .store 1 (.tmp 25) (.tmp 23), none, 1, true⟩])
 (.seq (.region [⟨(some 26), .move (.tmp 1), none, 0, false⟩,
 ⟨(some 27), .bin .add (.tmp 26) (.const (.int .i64 1)), none, 0, false⟩,
 ⟨(some 28), .move (.tmp 2), none, 0, false⟩,
 ⟨(some 29), .bin .sub (.tmp 28) (.const (.int .i64 1)), none, 0, false⟩,
 ⟨(some 10), .move (.tmp 27), none, 0, false⟩,
 ⟨(some 11), .move (.tmp 29), none, 0, false⟩])
 (.seq (.block 0 (.loop (.seq (.seq (.draw [⟨(some 30), .move (.tmp 10), none, 0, false⟩,
 ⟨(some 31), .move (.tmp 11), none, 0, false⟩,
 ⟨(some 32), .bin .leq (.tmp 30) (.tmp 31), none, 0, false⟩,
 ⟨(some 33), .move (.tmp 32), none, 0, false⟩,
 ⟨(some 34), .move (.tmp 0), (some (33, true)), 0, false⟩,
 ⟨(some 35), .move (.tmp 10), (some (33, true)), 0, false⟩,
 ⟨(some 36), .indexAddr 1 (.tmp 34) (.tmp 35), (some (33, true)), 0, false⟩,
 ⟨(some 37), .load1 (.tmp 36), (some (33, true)), 0, false⟩,
 ⟨(some 38), .move (.tmp 0), (some (33, true)), 0, false⟩,
 ⟨(some 39), .move (.tmp 1), (some (33, true)), 0, false⟩,
 ⟨(some 40), .indexAddr 1 (.tmp 38) (.tmp 39), (some (33, true)), 0, false⟩,
 ⟨(some 41), .load1 (.tmp 40), (some (33, true)), 0, false⟩,
 ⟨(some 42), .call (.func 284) [(.tmp 37), (.tmp 41)], (some (33, true)), 0, true⟩,
 ⟨(some 43), .pick (.tmp 33) (.tmp 42) (.const (.bool false)), none, 1, false⟩])
 (.cond (.tmp 43) .skip
 (.exit 0)))
 (.block 1 (.region [⟨(some 44), .move (.tmp 10), none, 0, false⟩,
 ⟨(some 45), .bin .add (.tmp 44) (.const (.int .i64 1)), none, 0, false⟩,
 ⟨(some 10), .move (.tmp 45), none, 0, false⟩])))))
 (.seq (.block 2 (.loop (.seq (.seq (.draw [⟨(some 46), .move (.tmp 10), none, 0, false⟩,
 ⟨(some 47), .move (.tmp 11), none, 0, false⟩,
 ⟨(some 48), .bin .leq (.tmp 46) (.tmp 47), none, 0, false⟩,
 ⟨(some 49), .move (.tmp 48), none, 0, false⟩,
 ⟨(some 50), .move (.tmp 0), (some (49, true)), 0, false⟩,
 ⟨(some 51), .move (.tmp 11), (some (49, true)), 0, false⟩,
 ⟨(some 52), .indexAddr 1 (.tmp 50) (.tmp 51), (some (49, true)), 0, false⟩,
 ⟨(some 53), .load1 (.tmp 52), (some (49, true)), 0, false⟩,
 ⟨(some 54), .move (.tmp 0), (some (49, true)), 0, false⟩,
 ⟨(some 55), .move (.tmp 1), (some (49, true)), 0, false⟩,
 ⟨(some 56), .indexAddr 1 (.tmp 54) (.tmp 55), (some (49, true)), 0, false⟩,
 ⟨(some 57), .load1 (.tmp 56), (some (49, true)), 0, false⟩,
 ⟨(some 58), .call (.func 284) [(.tmp 53), (.tmp 57)], (some (49, true)), 0, true⟩,
 ⟨(some 59), .un .not (.tmp 58), (some (49, true)), 1, false⟩,
 ⟨(some 60), .pick (.tmp 49) (.tmp 59) (.const (.bool false)), none, 1, false⟩])
 (.cond (.tmp 60) .skip
 (.exit 2)))
 (.block 3 (.region [⟨(some 61), .move (.tmp 11), none, 0, false⟩,
 ⟨(some 62), .bin .sub (.tmp 61) (.const (.int .i64 1)), none, 0, false⟩,
 ⟨(some 11), .move (.tmp 62), none, 0, false⟩])))))
 (.seq (.seq (.region [⟨(some 63), .move (.tmp 10), none, 0, false⟩,
 ⟨(some 64), .move (.tmp 11), none, 0, false⟩,
 ⟨(some 65), .bin .gtr (.tmp 63) (.tmp 64), none, 0, false⟩])
 (.cond (.tmp 65) (.seq (.draw [⟨(some 66), .move (.tmp 0), none, 0, false⟩,
 ⟨(some 67), .move (.tmp 11), none, 0, false⟩,
 ⟨(some 70), .move (.tmp 0), none, 0, false⟩,
 ⟨(some 71), .move (.tmp 1), none, 0, false⟩,
 ⟨(some 72), .indexAddr 1 (.tmp 70) (.tmp 71), none, 0, false⟩,
 ⟨(some 73), .load1 (.tmp 72), none, 0, false⟩,
 ⟨(some 74), .move (.tmp 0), none, 0, false⟩,
 ⟨(some 75), .move (.tmp 11), none, 0, false⟩,
 ⟨(some 76), .indexAddr 1 (.tmp 74) (.tmp 75), none, 0, false⟩,
 ⟨(some 77), .load1 (.tmp 76), none, 0, false⟩,
 ⟨(some 78), .indexAddr 1 (.tmp 66) (.tmp 67), none, 0, false⟩,
 ⟨none, .store 1 (.tmp 78) (.tmp 73), none, 0, true⟩,
 ⟨(some 68), .move (.tmp 0), none, 0, false⟩,
 ⟨(some 69), .move (.tmp 1), none, 0, false⟩,
 ⟨(some 79), .indexAddr 1 (.tmp 68) (.tmp 69), none, 1, false⟩,
 ⟨none, .store 1 (.tmp 79) (.tmp 77), none, 1, true⟩])
 (.seq (.region [⟨(some 80), .move (.tmp 11), none, 0, false⟩,
 ⟨(some 8), .move (.tmp 80), none, 0, false⟩,
 ⟨(some 9), .move (.const (.bool true)), none, 0, false⟩])
 .ret))
 .skip))
 (.seq (.draw [⟨(some 81), .move (.tmp 0), none, 0, false⟩,
 ⟨(some 82), .move (.tmp 10), none, 0, false⟩,
 ⟨(some 85), .move (.tmp 0), none, 0, false⟩,
 ⟨(some 86), .move (.tmp 11), none, 0, false⟩,
 ⟨(some 87), .indexAddr 1 (.tmp 85) (.tmp 86), none, 0, false⟩,
 ⟨(some 88), .load1 (.tmp 87), none, 0, false⟩,
 ⟨(some 89), .move (.tmp 0), none, 0, false⟩,
 ⟨(some 90), .move (.tmp 10), none, 0, false⟩,
 ⟨(some 91), .indexAddr 1 (.tmp 89) (.tmp 90), none, 0, false⟩,
 ⟨(some 92), .load1 (.tmp 91), none, 0, false⟩,
 ⟨(some 93), .indexAddr 1 (.tmp 81) (.tmp 82), none, 0, false⟩,
 ⟨none, .store 1 (.tmp 93) (.tmp 88), none, 0, true⟩,
 ⟨(some 83), .move (.tmp 0), none, 0, false⟩,
 ⟨(some 84), .move (.tmp 11), none, 0, false⟩,
 ⟨(some 94), .indexAddr 1 (.tmp 83) (.tmp 84), none, 1, false⟩,
 ⟨none, .store 1 (.tmp 94) (.tmp 92), none, 1, true⟩])
 (.seq (.region [⟨(some 95), .move (.tmp 10), none, 0, false⟩,
 ⟨(some 96), .bin .add (.tmp 95) (.const (.int .i64 1)), none, 0, false⟩,
 ⟨(some 10), .move (.tmp 96), none, 0, false⟩])
 (.seq (.region [⟨(some 97), .move (.tmp 11), none, 0, false⟩,
 ⟨(some 98), .bin .sub (.tmp 97) (.const (.int .i64 1)), none, 0, false⟩,
 ⟨(some 11), .move (.tmp 98), none, 0, false⟩])
 (.seq (.block 4 (.loop (.block 5 (.seq (.block 6 (.loop (.seq (.seq (.draw [⟨(some 99), .move (.tmp 10), none, 0, false⟩,
 ⟨(some 100), .move (.tmp 11), none, 0, false⟩,
 ⟨(some 101), .bin .leq (.tmp 99) (.tmp 100), none, 0, false⟩,
 ⟨(some 102), .move (.tmp 101), none, 0, false⟩,
 ⟨(some 103), .move (.tmp 0), (some (102, true)), 0, false⟩,
 ⟨(some 104), .move (.tmp 10), (some (102, true)), 0, false⟩,
 ⟨(some 105), .indexAddr 1 (.tmp 103) (.tmp 104), (some (102, true)), 0, false⟩,
 ⟨(some 106), .load1 (.tmp 105), (some (102, true)), 0, false⟩,
 ⟨(some 107), .move (.tmp 0), (some (102, true)), 0, false⟩,
 ⟨(some 108), .move (.tmp 1), (some (102, true)), 0, false⟩,
 ⟨(some 109), .indexAddr 1 (.tmp 107) (.tmp 108), (some (102, true)), 0, false⟩,
 ⟨(some 110), .load1 (.tmp 109), (some (102, true)), 0, false⟩,
 ⟨(some 111), .call (.func 284) [(.tmp 106), (.tmp 110)], (some (102, true)), 0, true⟩,
 ⟨(some 112), .pick (.tmp 102) (.tmp 111) (.const (.bool false)), none, 1, false⟩])
 (.cond (.tmp 112) .skip
 (.exit 6)))
 (.block 7 (.region [⟨(some 113), .move (.tmp 10), none, 0, false⟩,
 ⟨(some 114), .bin .add (.tmp 113) (.const (.int .i64 1)), none, 0, false⟩,
 ⟨(some 10), .move (.tmp 114), none, 0, false⟩])))))
 (.seq (.block 8 (.loop (.seq (.seq (.draw [⟨(some 115), .move (.tmp 10), none, 0, false⟩,
 ⟨(some 116), .move (.tmp 11), none, 0, false⟩,
 ⟨(some 117), .bin .leq (.tmp 115) (.tmp 116), none, 0, false⟩,
 ⟨(some 118), .move (.tmp 117), none, 0, false⟩,
 ⟨(some 119), .move (.tmp 0), (some (118, true)), 0, false⟩,
 ⟨(some 120), .move (.tmp 11), (some (118, true)), 0, false⟩,
 ⟨(some 121), .indexAddr 1 (.tmp 119) (.tmp 120), (some (118, true)), 0, false⟩,
 ⟨(some 122), .load1 (.tmp 121), (some (118, true)), 0, false⟩,
 ⟨(some 123), .move (.tmp 0), (some (118, true)), 0, false⟩,
 ⟨(some 124), .move (.tmp 1), (some (118, true)), 0, false⟩,
 ⟨(some 125), .indexAddr 1 (.tmp 123) (.tmp 124), (some (118, true)), 0, false⟩,
 ⟨(some 126), .load1 (.tmp 125), (some (118, true)), 0, false⟩,
 ⟨(some 127), .call (.func 284) [(.tmp 122), (.tmp 126)], (some (118, true)), 0, true⟩,
 ⟨(some 128), .un .not (.tmp 127), (some (118, true)), 1, false⟩,
 ⟨(some 129), .pick (.tmp 118) (.tmp 128) (.const (.bool false)), none, 1, false⟩])
 (.cond (.tmp 129) .skip
 (.exit 8)))
 (.block 9 (.region [⟨(some 130), .move (.tmp 11), none, 0, false⟩,
 ⟨(some 131), .bin .sub (.tmp 130) (.const (.int .i64 1)), none, 0, false⟩,
 ⟨(some 11), .move (.tmp 131), none, 0, false⟩])))))
 (.seq (.seq (.region [⟨(some 132), .move (.tmp 10), none, 0, false⟩,
 ⟨(some 133), .move (.tmp 11), none, 0, false⟩,
 ⟨(some 134), .bin .gtr (.tmp 132) (.tmp 133), none, 0, false⟩])
 (.cond (.tmp 134) (.exit 4)
 .skip))
 (.seq (.draw [⟨(some 135), .move (.tmp 0), none, 0, false⟩,
 ⟨(some 136), .move (.tmp 10), none, 0, false⟩,
 ⟨(some 139), .move (.tmp 0), none, 0, false⟩,
 ⟨(some 140), .move (.tmp 11), none, 0, false⟩,
 ⟨(some 141), .indexAddr 1 (.tmp 139) (.tmp 140), none, 0, false⟩,
 ⟨(some 142), .load1 (.tmp 141), none, 0, false⟩,
 ⟨(some 143), .move (.tmp 0), none, 0, false⟩,
 ⟨(some 144), .move (.tmp 10), none, 0, false⟩,
 ⟨(some 145), .indexAddr 1 (.tmp 143) (.tmp 144), none, 0, false⟩,
 ⟨(some 146), .load1 (.tmp 145), none, 0, false⟩,
 ⟨(some 147), .indexAddr 1 (.tmp 135) (.tmp 136), none, 0, false⟩,
 ⟨none, .store 1 (.tmp 147) (.tmp 142), none, 0, true⟩,
 ⟨(some 137), .move (.tmp 0), none, 0, false⟩,
 ⟨(some 138), .move (.tmp 11), none, 0, false⟩,
 ⟨(some 148), .indexAddr 1 (.tmp 137) (.tmp 138), none, 1, false⟩,
 ⟨none, .store 1 (.tmp 148) (.tmp 146), none, 1, true⟩])
 (.seq (.region [⟨(some 149), .move (.tmp 10), none, 0, false⟩,
 ⟨(some 150), .bin .add (.tmp 149) (.const (.int .i64 1)), none, 0, false⟩,
 ⟨(some 10), .move (.tmp 150), none, 0, false⟩])
 (.region [⟨(some 151), .move (.tmp 11), none, 0, false⟩,
 ⟨(some 152), .bin .sub (.tmp 151) (.const (.int .i64 1)), none, 0, false⟩,
 ⟨(some 11), .move (.tmp 152), none, 0, false⟩])))))))))
 (.seq (.draw [⟨(some 153), .move (.tmp 0), none, 0, false⟩,
 ⟨(some 154), .move (.tmp 11), none, 0, false⟩,
 ⟨(some 157), .move (.tmp 0), none, 0, false⟩,
 ⟨(some 158), .move (.tmp 1), none, 0, false⟩,
 ⟨(some 159), .indexAddr 1 (.tmp 157) (.tmp 158), none, 0, false⟩,
 ⟨(some 160), .load1 (.tmp 159), none, 0, false⟩,
 ⟨(some 161), .move (.tmp 0), none, 0, false⟩,
 ⟨(some 162), .move (.tmp 11), none, 0, false⟩,
 ⟨(some 163), .indexAddr 1 (.tmp 161) (.tmp 162), none, 0, false⟩,
 ⟨(some 164), .load1 (.tmp 163), none, 0, false⟩,
 ⟨(some 165), .indexAddr 1 (.tmp 153) (.tmp 154), none, 0, false⟩,
 ⟨none, .store 1 (.tmp 165) (.tmp 160), none, 0, true⟩,
 ⟨(some 155), .move (.tmp 0), none, 0, false⟩,
 ⟨(some 156), .move (.tmp 1), none, 0, false⟩,
 ⟨(some 166), .indexAddr 1 (.tmp 155) (.tmp 156), none, 1, false⟩,
 ⟨none, .store 1 (.tmp 166) (.tmp 164), none, 1, true⟩])
 (.seq (.region [⟨(some 167), .move (.tmp 11), none, 0, false⟩,
 ⟨(some 8), .move (.tmp 167), none, 0, false⟩,
 ⟨(some 9), .move (.const (.bool false)), none, 0, false⟩])
 .ret))))))))))))⟩

def L287 : LFunc := ⟨82, [],
 (.seq (.region [⟨(some 12), .move (.tmp 1), none, 0, false⟩,
 ⟨(some 10), .move (.tmp 12), none, 0, false⟩])
 (.block 0 (.loop (.block 1 (.seq (.region [⟨(some 13), .move (.tmp 10), none, 0, false⟩,
 ⟨(some 14), .bin .mul (.const (.int .i64 2)) (.tmp 13), none, 0, false⟩,
 ⟨(some 15), .bin .add (.tmp 14) (.const (.int .i64 1)), none, 0, false⟩,
 ⟨(some 11), .move (.tmp 15), none, 0, false⟩])
 (.seq (.seq (.region [⟨(some 16), .move (.tmp 11), none, 0, false⟩,
 ⟨(some 17), .move (.tmp 2), none, 0, false⟩,
 ⟨(some 18), .bin .geq (.tmp 16) (.tmp 17), none, 0, false⟩])
 (.cond (.tmp 18) (.exit 0)
 .skip))
 (.seq (.seq (.draw [⟨(some 19), .move (.tmp 11), none, 0, false⟩,
 ⟨(some 20), .bin .add (.tmp 19) (.const (.int .i64 1)), none, 0, false⟩,
 ⟨(some 21), .move (.tmp 2), none, 0, false⟩,
 ⟨(some 22), .bin .lss (.tmp 20) (.tmp 21), none, 0, false⟩,
 ⟨(some 23), .move (.tmp 22), none, 0, false⟩,
 ⟨(some 24), .move (.tmp 4), (some (23, true)), 0, false⟩,
 ⟨(some 25), .move (.tmp 0), (some (23, true)), 0, false⟩,
 ⟨(some 26), .move (.tmp 3), (some (23, true)), 0, false⟩,
 ⟨(some 27), .move (.tmp 11), (some (23, true)), 0, false⟩,
 ⟨(some 28), .bin .add (.tmp 26) (.tmp 27), (some (23, true)), 0, false⟩,
 ⟨(some 29), .indexAddr 14 (.tmp 25) (.tmp 28), (some (23, true)), 0, false⟩,
 ⟨(some 30), .loadN 14 (.tmp 29), (some (23, true)), 0, false⟩,
 ⟨(some 31), .move (.tmp 0), (some (23, true)), 0, false⟩,
 ⟨(some 32), .move (.tmp 3), (some (23, true)), 0, false⟩,
 ⟨(some 33), .move (.tmp 11), (some (23, true)), 0, false⟩,
 ⟨(some 34), .bin .add (.tmp 32) (.tmp 33), (some (23, true)), 0, false⟩,
 ⟨(some 35), .bin .add (.tmp 34) (.const (.int .i64 1)), (some (23, true)), 0, false⟩,
 ⟨(some 36), .indexAddr 14 (.tmp 31) (.tmp 35), (some (23, true)), 0, false⟩,
 ⟨(some 37), .loadN 14 (.tmp 36), (some (23, true)), 0, false⟩,
 ⟨(some 38), .call (.tmp 24) [(.tmp 30), (.tmp 37)], (some (23, true)), 0, true⟩,
 ⟨(some 39), .bin .lss (.tmp 38) (.const (.int .i64 0)), (some (23, true)), 1, false⟩,
 ⟨(some 40), .pick (.tmp 23) (.tmp 39) (.const (.bool false)), none, 1, false⟩])
 (.cond (.tmp 40) (.region [⟨(some 41), .move (.tmp 11), none, 0, false⟩,
 ⟨(some 42), .bin .add (.tmp 41) (.const (.int .i64 1)), none, 0, false⟩,
 ⟨(some 11), .move (.tmp 42), none, 0, false⟩])
 .skip))
 (.seq (.seq (.draw [⟨(some 43), .move (.tmp 4), none, 0, false⟩,
 ⟨(some 44), .move (.tmp 0), none, 0, false⟩,
 ⟨(some 45), .move (.tmp 3), none, 0, false⟩,
 ⟨(some 46), .move (.tmp 10), none, 0, false⟩,
 ⟨(some 47), .bin .add (.tmp 45) (.tmp 46), none, 0, false⟩,
 ⟨(some 48), .indexAddr 14 (.tmp 44) (.tmp 47), none, 0, false⟩,
 ⟨(some 49), .loadN 14 (.tmp 48), none, 0, false⟩,
 ⟨(some 50), .move (.tmp 0), none, 0, false⟩,
 ⟨(some 51), .move (.tmp 3), none, 0, false⟩,
 ⟨(some 52), .move (.tmp 11), none, 0, false⟩,
 ⟨(some 53), .bin .add (.tmp 51) (.tmp 52), none, 0, false⟩,
 ⟨(some 54), .indexAddr 14 (.tmp 50) (.tmp 53), none, 0, false⟩,
 ⟨(some 55), .loadN 14 (.tmp 54), none, 0, false⟩,
 ⟨(some 56), .call (.tmp 43) [(.tmp 49), (.tmp 55)], none, 0, true⟩,
 ⟨(some 57), .bin .lss (.tmp 56) (.const (.int .i64 0)), none, 1, false⟩,
 ⟨(some 58), .un .not (.tmp 57), none, 1, false⟩])
 (.cond (.tmp 58) .ret
 .skip))
 (.seq (.draw [⟨(some 59), .move (.tmp 0), none, 0, false⟩,
 ⟨(some 60), .move (.tmp 3), none, 0, false⟩,
 ⟨(some 61), .move (.tmp 10), none, 0, false⟩,
 ⟨(some 62), .bin .add (.tmp 60) (.tmp 61), none, 0, false⟩,
 ⟨(some 67), .move (.tmp 0), none, 0, false⟩,
 ⟨(some 68), .move (.tmp 3), none, 0, false⟩,
 ⟨(some 69), .move (.tmp 11), none, 0, false⟩,
 ⟨(some 70), .bin .add (.tmp 68) (.tmp 69), none, 0, false⟩,
 ⟨(some 71), .indexAddr 14 (.tmp 67) (.tmp 70), none, 0, false⟩,
 ⟨(some 72), .loadN 14 (.tmp 71), none, 0, false⟩,
 ⟨(some 73), .move (.tmp 0), none, 0, false⟩,
 ⟨(some 74), .move (.tmp 3), none, 0, false⟩,
 ⟨(some 75), .move (.tmp 10), none, 0, false⟩,
 ⟨(some 76), .bin .add (.tmp 74) (.tmp 75), none, 0, false⟩,
 ⟨(some 77), .indexAddr 14 (.tmp 73) (.tmp 76), none, 0, false⟩,
 ⟨(some 78), .loadN 14 (.tmp 77), none, 0, false⟩,
 ⟨(some 79), .indexAddr 14 (.tmp 59) (.tmp 62), none, 0, false⟩,
 ⟨none, .store 14 (.tmp 79) (.tmp 72), none, 0, true⟩,
 ⟨(some 63), .move (.tmp 0), none, 0, false⟩,
 ⟨(some 64), .move (.tmp 3), none, 0, false⟩,
 ⟨(some 65), .move (.tmp 11), none, 0, false⟩,
 ⟨(some 66), .bin .add (.tmp 64) (.tmp 65), none, 0, false⟩,
 ⟨(some 80), .indexAddr 14 (.tmp 63) (.tmp 66), none, 1, false⟩,
 ⟨none, .store 14 (.tmp 80) (.tmp 78), none, 1, true⟩])
 (.region [⟨(some 81), .move (.tmp 11), none, 0, false⟩,
 ⟨(some 10), .move (.tmp 81), none, 0, false⟩]))))))))))⟩

def L288 : LFunc := ⟨7, [.tmp 2],
 (.seq (.region [⟨(some 2), .move (.const (.int .u64 0)), none, 0, false⟩])
 (.seq (.region [⟨(some 3), .move (.tmp 0), none, 0, false⟩,
 ⟨(some 4), .conv (.int .u64) (.tmp 3), none, 0, false⟩,
 ⟨(some 5), .call (.func 243) [(.tmp 4)], none, 0, false⟩,
 ⟨(some 6), .bin .shl (.const (.int .u64 1)) (.tmp 5), none, 0, false⟩,
 ⟨(some 2), .move (.tmp 6), none, 0, false⟩])
 .ret))⟩

def L289 : LFunc := ⟨33, [.tmp 2],
 (.seq (.region [⟨(some 2), .move (.const (.int .u64 0)), none, 0, false⟩])
 (.seq (.draw [⟨(some 3), .move (.tmp 0), none, 0, false⟩,
 ⟨(some 4), .nilCheck (.tmp 3), none, 0, false⟩,
 ⟨(some 5), .load1 (.tmp 4), none, 0, false⟩,
 ⟨(some 6), .move (.tmp 0), none, 0, false⟩,
 ⟨(some 7), .nilCheck (.tmp 6), none, 0, false⟩,
 ⟨(some 8), .load1 (.tmp 7), none, 0, false⟩,
 ⟨(some 9), .bin .shl (.tmp 8) (.const (.int .u64 13)), none, 0, false⟩,
 ⟨(some 10), .bin .xor (.tmp 5) (.tmp 9), none, 0, false⟩,
 ⟨(some 11), .nilCheck (.tmp 3), none, 0, false⟩,
 ⟨none, .store 1 (.tmp 11) (.tmp 10), none, 0, true⟩])
 (.seq (.draw [⟨(some 12), .move (.tmp 0), none, 0, false⟩,
 ⟨(some 13), .nilCheck (.tmp 12), none, 0, false⟩,
 ⟨(some 14), .load1 (.tmp 13), none, 0, false⟩,
 ⟨(some 15), .move (.tmp 0), none, 0, false⟩,
 ⟨(some 16), .nilCheck (.tmp 15), none, 0, false⟩,
 ⟨(some 17), .load1 (.tmp 16), none, 0, false⟩,
 ⟨(some 18), .bin .shr (.tmp 17) (.const (.int .u64 7)), none, 0, false⟩,
 ⟨(some 19), .bin .xor (.tmp 14) (.tmp 18), none, 0, false⟩,
 ⟨(some 20), .nilCheck (.tmp 12), none, 0, false⟩,
 ⟨none, .store 1 (.tmp 20) (.tmp 19), none, 0, true⟩])
 (.seq (.draw [⟨(some 21), .move (.tmp 0), none, 0, false⟩,
 ⟨(some 22), .nilCheck (.tmp 21), none, 0, false⟩,
 ⟨(some 23), .load1 (.tmp 22), none, 0, false⟩,
 ⟨(some 24), .move (.tmp 0), none, 0, false⟩,
 ⟨(some 25), .nilCheck (.tmp 24), none, 0, false⟩,
 ⟨(some 26), .load1 (.tmp 25), none, 0, false⟩,
 ⟨(some 27), .bin .shl (.tmp 26) (.const (.int .u64 17)), none, 0, false⟩,
 ⟨(some 28), .bin .xor (.tmp 23) (.tmp 27), none, 0, false⟩,
 ⟨(some 29), .nilCheck (.tmp 21), none, 0, false⟩,
 ⟨none, .store 1 (.tmp 29) (.tmp 28), none, 0, true⟩])
 (.seq (.region [⟨(some 30), .move (.tmp 0), none, 0, false⟩,
 ⟨(some 31), .nilCheck (.tmp 30), none, 0, false⟩,
 ⟨(some 32), .load1 (.tmp 31), none, 0, false⟩,
 ⟨(some 2), .move (.tmp 32), none, 0, false⟩])
 .ret)))))⟩

def L290 : LFunc := ⟨18, [.tmp 8],
 (.seq (.region [⟨(some 8), .move (.const (.int .i64 0)), none, 0, false⟩])
 (.seq (.region [⟨(some 9), .move (.tmp 0), none, 0, false⟩,
 ⟨(some 10), .move (.tmp 1), none, 0, false⟩,
 ⟨(some 11), .bin .sub (.tmp 10) (.const (.int .i64 1)), none, 0, false⟩,
 ⟨(some 12), .move (.tmp 1), none, 0, false⟩,
 ⟨(some 13), .move (.tmp 1), none, 0, false⟩,
 ⟨(some 14), .bin .add (.tmp 13) (.const (.int .i64 1)), none, 0, false⟩,
 ⟨(some 15), .move (.tmp 2), none, 0, false⟩,
 ⟨(some 16), .move (.tmp 3), none, 0, false⟩,
 ⟨(some 17), .call (.func 291) [(.tmp 9), (.tmp 11), (.tmp 12), (.tmp 14), (.tmp 15), (.tmp 16)], none, 0, false⟩,
 ⟨(some 8), .move (.tmp 17), none, 0, false⟩])
 .ret))⟩

def L291 : LFunc := ⟨41, [.tmp 12],
 (.seq (.region [⟨(some 12), .move (.const (.int .i64 0)), none, 0, false⟩])
 (.seq (.region [⟨(some 14), .move (.tmp 0), none, 0, false⟩,
 ⟨(some 15), .move (.tmp 1), none, 0, false⟩,
 ⟨(some 16), .move (.tmp 2), none, 0, false⟩,
 ⟨(some 17), .move (.tmp 4), none, 0, false⟩,
 ⟨(some 18), .move (.tmp 5), none, 0, false⟩,
 ⟨(some 19), .call (.func 297) [(.tmp 14), (.tmp 15), (.tmp 16), (.tmp 17), (.tmp 18)], none, 0, false⟩,
 ⟨(some 13), .move (.tmp 19), none, 0, false⟩,
 ⟨(some 20), .extract (.tmp 13) 0, none, 0, false⟩,
 ⟨(some 21), .extract (.tmp 13) 1, none, 0, false⟩,
 ⟨(some 1), .move (.tmp 20), none, 0, false⟩,
 ⟨(some 2), .move (.tmp 21), none, 0, false⟩])
 (.seq (.region [⟨(some 23), .move (.tmp 0), none, 0, false⟩,
 ⟨(some 24), .move (.tmp 2), none, 0, false⟩,
 ⟨(some 25), .move (.tmp 3), none, 0, false⟩,
 ⟨(some 26), .move (.tmp 4), none, 0, false⟩,
 ⟨(some 27), .move (.tmp 5), none, 0, false⟩,
 ⟨(some 28), .call (.func 297) [(.tmp 23), (.tmp 24), (.tmp 25), (.tmp 26), (.tmp 27)], none, 0, false⟩,
 ⟨(some 22), .move (.tmp 28), none, 0, false⟩,
 ⟨(some 29), .extract (.tmp 22) 0, none, 0, false⟩,
 ⟨(some 30), .extract (.tmp 22) 1, none, 0, false⟩,
 ⟨(some 2), .move (.tmp 29), none, 0, false⟩,
 ⟨(some 3), .move (.tmp 30), none, 0, false⟩])
 (.seq (.region [⟨(some 32), .move (.tmp 0), none, 0, false⟩,
 ⟨(some 33), .move (.tmp 1), none, 0, false⟩,
 ⟨(some 34), .move (.tmp 2), none, 0, false⟩,
 ⟨(some 35), .move (.tmp 4), none, 0, false⟩,
 ⟨(some 36), .move (.tmp 5), none, 0, false⟩,
 ⟨(some 37), .call (.func 297) [(.tmp 32), (.tmp 33), (.tmp 34), (.tmp 35), (.tmp 36)], none, 0, false⟩,
 ⟨(some 31), .move (.tmp 37), none, 0, false⟩,
 ⟨(some 38), .extract (.tmp 31) 0, none, 0, false⟩,
 ⟨(some 39), .extract (.tmp 31) 1, none, 0, false⟩,
 ⟨(some 1), .move (.tmp 38), none, 0, false⟩,
 ⟨(some 2), .move (.tmp 39), none, 0, false⟩])
 (.seq (.region [⟨(some 40), .move (.tmp 2), none, 0, false⟩,
 ⟨(some 12), .move (.tmp 40), none, 0, false⟩])
 .ret)))))⟩

def L292 : LFunc := ⟨24, [.tmp 4],
 (.seq (.region [⟨(some 4), .move (.const (.int .u32 0)), none, 0, false⟩])
 (.scope (.seq (.region [⟨(some 7), .move (.tmp 0), none, 0, false⟩,
 ⟨(some 8), .move (.tmp 1), none, 0, false⟩,
 ⟨(some 9), .conv (.int .u32) (.tmp 8), none, 0, false⟩,
 ⟨(some 10), .bin .shl (.tmp 9) (.const (.int .u64 24)), none, 0, false⟩,
 ⟨(some 11), .bin .xor (.tmp 7) (.tmp 10), none, 0, false⟩,
 ⟨(some 0), .move (.tmp 11), none, 0, false⟩])
 (.seq (.region [⟨(some 5), .move (.const (.int .i64 0)), none, 0, false⟩])
 (.seq .skip
 (.seq (.region [⟨(some 12), .move (.tmp 0), none, 0, false⟩,
 ⟨(some 13), .bin .shr (.tmp 12) (.const (.int .u64 31)), none, 0, false⟩,
 ⟨(some 6), .move (.tmp 13), none, 0, false⟩])
 (.seq (.region [⟨(some 14), .move (.tmp 0), none, 0, false⟩,
 ⟨(some 15), .bin .shl (.tmp 14) (.const (.int .u64 1)), none, 0, false⟩,
 ⟨(some 16), .move (.tmp 6), none, 0, false⟩,
 ⟨(some 17), .bin .mul (.const (.int .u32 79764919)) (.tmp 16), none, 0, false⟩,
 ⟨(some 18), .bin .xor (.tmp 15) (.tmp 17), none, 0, false⟩,
 ⟨(some 0), .move (.tmp 18), none, 0, false⟩])
 (.seq (.seq (.region [⟨(some 19), .move (.tmp 5), none, 0, false⟩,
 ⟨(some 20), .bin .add (.tmp 19) (.const (.int .i64 1)), none, 0, false⟩,
 ⟨(some 5), .move (.tmp 20), none, 0, false⟩])
 (.seq (.region [⟨(some 21), .move (.tmp 5), none, 0, false⟩,
 ⟨(some 22), .bin .lss (.tmp 21) (.const (.int .i64 8)), none, 0, false⟩])
 (.cond (.tmp 22) (.goto 0)
 .skip)))
 (.seq (.region [⟨(some 23), .move (.tmp 0), none, 0, false⟩,
 ⟨(some 4), .move (.tmp 23), none, 0, false⟩])
 .ret))))))) 0 (.seq .skip
 (.seq (.region [⟨(some 12), .move (.tmp 0), none, 0, false⟩,
 ⟨(some 13), .bin .shr (.tmp 12) (.const (.int .u64 31)), none, 0, false⟩,
 ⟨(some 6), .move (.tmp 13), none, 0, false⟩])
 (.seq (.region [⟨(some 14), .move (.tmp 0), none, 0, false⟩,
 ⟨(some 15), .bin .shl (.tmp 14) (.const (.int .u64 1)), none, 0, false⟩,
 ⟨(some 16), .move (.tmp 6), none, 0, false⟩,
 ⟨(some 17), .bin .mul (.const (.int .u32 79764919)) (.tmp 16), none, 0, false⟩,
 ⟨(some 18), .bin .xor (.tmp 15) (.tmp 17), none, 0, false⟩,
 ⟨(some 0), .move (.tmp 18), none, 0, false⟩])
 (.seq (.seq (.region [⟨(some 19), .move (.tmp 5), none, 0, false⟩,
 ⟨(some 20), .bin .add (.tmp 19) (.const (.int .i64 1)), none, 0, false⟩,
 ⟨(some 5), .move (.tmp 20), none, 0, false⟩])
 (.seq (.region [⟨(some 21), .move (.tmp 5), none, 0, false⟩,
 ⟨(some 22), .bin .lss (.tmp 21) (.const (.int .i64 8)), none, 0, false⟩])
 (.cond (.tmp 22) (.goto 0)
 .skip)))
 (.seq (.region [⟨(some 23), .move (.tmp 0), none, 0, false⟩,
 ⟨(some 4), .move (.tmp 23), none, 0, false⟩])
 .ret)))))))⟩

def L293 : LFunc := ⟨19, [.tmp 4],
 (.seq (.region [⟨(some 4), .move (.const (.int .i64 0)), none, 0, false⟩])
 (.seq (.seq (.region [⟨(some 6), .move (.tmp 0), none, 0, false⟩,
 ⟨(some 7), .len false (.tmp 6), none, 0, false⟩,
 ⟨(some 8), .move (.const (.int .i64 0)), none, 0, false⟩])
 (.block 0 (.loop (.seq (.region [⟨(some 9), .bin .lss (.tmp 8) (.tmp 7), none, 0, false⟩])
 (.seq (.cond (.tmp 9) .skip
 (.exit 0))
 (.seq (.block 1 (.seq (.region [⟨(some 10), .move (.tmp 8), none, 0, false⟩,
 ⟨(some 5), .move (.tmp 10), none, 0, false⟩])
 (.seq (.region [⟨(some 11), .move (.tmp 1), none, 0, false⟩,
 ⟨(some 12), .move (.tmp 0), none, 0, false⟩,
 ⟨(some 13), .move (.tmp 5), none, 0, false⟩,
 ⟨(some 14), .indexAddr 1 (.tmp 12) (.tmp 13), none, 0, false⟩,
 ⟨(some 15), .load1 (.tmp 14), none, 0, false⟩,
 ⟨(some 16), .call (.tmp 11) [(.tmp 15)], none, 0, false⟩])
 (.cond (.tmp 16) (.seq (.region [⟨(some 17), .move (.tmp 5), none, 0, false⟩,
 ⟨(some 4), .move (.tmp 17), none, 0, false⟩])
 .ret)
 .skip))))
 (.region [⟨(some 18), .bin .add (.tmp 8) (.const (.int .i64 1)), none, 0, false⟩,
 ⟨(some 8), .move (.tmp 18), none, 0, false⟩])))))))
 (.seq (.region [⟨(some 4), .move (.const (.int .i64 (-1))), none, 0, false⟩])
 .ret)))⟩

def L294 : LFunc := ⟨76, [],
 (.seq (.region [⟨(some 10), .move (.tmp 1), none, 0, false⟩,
 ⟨(some 8), .move (.tmp 10), none, 0, false⟩])
 (.block 0 (.loop (.block 1 (.seq (.region [⟨(some 11), .move (.tmp 8), none, 0, false⟩,
 ⟨(some 12), .bin .mul (.const (.int .i64 2)) (.tmp 11), none, 0, false⟩,
 ⟨(some 13), .bin .add (.tmp 12) (.const (.int .i64 1)), none, 0, false⟩,
 ⟨(some 9), .move (.tmp 13), none, 0, false⟩])
 (.seq (.seq (.region [⟨(some 14), .move (.tmp 9), none, 0, false⟩,
 ⟨(some 15), .move (.tmp 2), none, 0, false⟩,
 ⟨(some 16), .bin .geq (.tmp 14) (.tmp 15), none, 0, false⟩])
 (.cond (.tmp 16) (.exit 0)
 .skip))
 (.seq (.seq (.draw [⟨(some 17), .move (.tmp 9), none, 0, false⟩,
 ⟨(some 18), .bin .add (.tmp 17) (.const (.int .i64 1)), none, 0, false⟩,
 ⟨(some 19), .move (.tmp 2), none, 0, false⟩,
 ⟨(some 20), .bin .lss (.tmp 18) (.tmp 19), none, 0, false⟩,
 ⟨(some 21), .move (.tmp 20), none, 0, false⟩,
 ⟨(some 22), .move (.tmp 0), (some (21, true)), 0, false⟩,
 ⟨(some 23), .move (.tmp 3), (some (21, true)), 0, false⟩,
 ⟨(some 24), .move (.tmp 9), (some (21, true)), 0, false⟩,
 ⟨(some 25), .bin .add (.tmp 23) (.tmp 24), (some (21, true)), 0, false⟩,
 ⟨(some 26), .indexAddr 1 (.tmp 22) (.tmp 25), (some (21, true)), 0, false⟩,
 ⟨(some 27), .load1 (.tmp 26), (some (21, true)), 0, false⟩,
 ⟨(some 28), .move (.tmp 0), (some (21, true)), 0, false⟩,
 ⟨(some 29), .move (.tmp 3), (some (21, true)), 0, false⟩,
 ⟨(some 30), .move (.tmp 9), (some (21, true)), 0, false⟩,
 ⟨(some 31), .bin .add (.tmp 29) (.tmp 30), (some (21, true)), 0, false⟩,
 ⟨(some 32), .bin .add (.tmp 31) (.const (.int .i64 1)), (some (21, true)), 0, false⟩,
 ⟨(some 33), .indexAddr 1 (.tmp 28) (.tmp 32), (some (21, true)), 0, false⟩,
 ⟨(some 34), .load1 (.tmp 33), (some (21, true)), 0, false⟩,
 ⟨(some 35), .call (.func 284) [(.tmp 27), (.tmp 34)], (some (21, true)), 0, true⟩,
 ⟨(some 36), .pick (.tmp 21) (.tmp 35) (.const (.bool false)), none, 1, false⟩])
 (.cond (.tmp 36) (.region [⟨(some 37), .move (.tmp 9), none, 0, false⟩,
 ⟨(some 38), .bin .add (.tmp 37) (.const (.int .i64 1)), none, 0, false⟩,
 ⟨(some 9), .move (.tmp 38), none, 0, false⟩])
 .skip))
 (.seq (.seq (.draw [⟨(some 39), .move (.tmp 0), none, 0, false⟩,
 ⟨(some 40), .move (.tmp 3), none, 0, false⟩,
 ⟨(some 41), .move (.tmp 8), none, 0, false⟩,
 ⟨(some 42), .bin .add (.tmp 40) (.tmp 41), none, 0, false⟩,
 ⟨(some 43), .indexAddr 1 (.tmp 39) (.tmp 42), none, 0, false⟩,
 ⟨(some 44), .load1 (.tmp 43), none, 0, false⟩,
 ⟨(some 45), .move (.tmp 0), none, 0, false⟩,
 ⟨(some 46), .move (.tmp 3), none, 0, false⟩,
 ⟨(some 47), .move (.tmp 9), none, 0, false⟩,
 ⟨(some 48), .bin .add (.tmp 46) (.tmp 47), none, 0, false⟩,
 ⟨(some 49), .indexAddr 1 (.tmp 45) (.tmp 48), none, 0, false⟩,
 ⟨(some 50), .load1 (.tmp 49), none, 0, false⟩,
 ⟨(some 51), .call (.func 284) [(.tmp 44), (.tmp 50)], none, 0, true⟩,
 ⟨(some 52), .un .not (.tmp 51), none, 1, false⟩])
 (.cond (.tmp 52) .ret
 .skip))
 (.seq (.draw [⟨(some 53), .move (.tmp 0), none, 0, false⟩,
 ⟨(some 54), .move (.tmp 3), none, 0, false⟩,
 ⟨(some 55), .move (.tmp 8), none, 0, false⟩,
 ⟨(some 56), .bin .add (.tmp 54) (.tmp 55), none, 0, false⟩,
 ⟨(some 61), .move (.tmp 0), none, 0, false⟩,
 ⟨(some 62), .move (.tmp 3), none, 0, false⟩,
 ⟨(some 63), .move (.tmp 9), none, 0, false⟩,
 ⟨(some 64), .bin .add (.tmp 62) (.tmp 63), none, 0, false⟩,
 ⟨(some 65), .indexAddr 1 (.tmp 61) (.tmp 64), none, 0, false⟩,
 ⟨(some 66), .load1 (.tmp 65), none, 0, false⟩,
 ⟨(some 67), .move (.tmp 0), none, 0, false⟩,
 ⟨(some 68), .move (.tmp 3), none, 0, false⟩,
 ⟨(some 69), .move (.tmp 8), none, 0, false⟩,
 ⟨(some 70), .bin .add (.tmp 68) (.tmp 69), none, 0, false⟩,
 ⟨(some 71), .indexAddr 1 (.tmp 67) (.tmp 70), none, 0, false⟩,
 ⟨(some 72), .load1 (.tmp 71), none, 0, false⟩,
 ⟨(some 73), .indexAddr 1 (.tmp 53) (.tmp 56), none, 0, false⟩,
 ⟨none, .store 1 (.tmp 73) (.tmp 66), none, 0, true⟩,
 ⟨(some 57), .move (.tmp 0), none, 0, false⟩,
 ⟨(some 58), .move (.tmp 3), none, 0, false⟩,
 ⟨(some 59), .move (.tmp 9), none, 0, false⟩,
 ⟨(some 60), .bin .add (.tmp 58) (.tmp 59), none, 0, false⟩,
 ⟨(some 74), .indexAddr 1 (.tmp 57) (.tmp 60), none, 1, false⟩,
 ⟨none, .store 1 (.tmp 74) (.tmp 72), none, 1, true⟩])
 (.region [⟨(some 75), .move (.tmp 9), none, 0, false⟩,
 ⟨(some 8), .move (.tmp 75), none, 0, false⟩]))))))))))⟩

def L295 : LFunc := ⟨15, [.tmp 6],
 (.seq (.region [⟨(some 6), .move (.const (.int .i64 0)), none, 0, false⟩])
 (.seq (.region [⟨(some 7), .move (.tmp 0), none, 0, false⟩,
 ⟨(some 8), .move (.tmp 1), none, 0, false⟩,
 ⟨(some 9), .bin .sub (.tmp 8) (.const (.int .i64 1)), none, 0, false⟩,
 ⟨(some 10), .move (.tmp 1), none, 0, false⟩,
 ⟨(some 11), .move (.tmp 1), none, 0, false⟩,
 ⟨(some 12), .bin .add (.tmp 11) (.const (.int .i64 1)), none, 0, false⟩,
 ⟨(some 13), .move (.tmp 2), none, 0, false⟩,
 ⟨(some 14), .call (.func 296) [(.tmp 7), (.tmp 9), (.tmp 10), (.tmp 12), (.tmp 13)], none, 0, false⟩,
 ⟨(some 6), .move (.tmp 14), none, 0, false⟩])
 .ret))⟩

def L296 : LFunc := ⟨36, [.tmp 10],
 (.seq (.region [⟨(some 10), .move (.const (.int .i64 0)), none, 0, false⟩])
 (.seq (.region [⟨(some 12), .move (.tmp 0), none, 0, false⟩,
 ⟨(some 13), .move (.tmp 1), none, 0, false⟩,
 ⟨(some 14), .move (.tmp 2), none, 0, false⟩,
 ⟨(some 15), .move (.tmp 4), none, 0, false⟩,
 ⟨(some 16), .call (.func 298) [(.tmp 12), (.tmp 13), (.tmp 14), (.tmp 15)], none, 0, false⟩,
 ⟨(some 11), .move (.tmp 16), none, 0, false⟩,
 ⟨(some 17), .extract (.tmp 11) 0, none, 0, false⟩,
 ⟨(some 18), .extract (.tmp 11) 1, none, 0, false⟩,
 ⟨(some 1), .move (.tmp 17), none, 0, false⟩,
 ⟨(some 2), .move (.tmp 18), none, 0, false⟩])
 (.seq (.region [⟨(some 20), .move (.tmp 0), none, 0, false⟩,
 ⟨(some 21), .move (.tmp 2), none, 0, false⟩,
 ⟨(some 22), .move (.tmp 3), none, 0, false⟩,
 ⟨(some 23), .move (.tmp 4), none, 0, false⟩,
 ⟨(some 24), .call (.func 298) [(.tmp 20), (.tmp 21), (.tmp 22), (.tmp 23)], none, 0, false⟩,
 ⟨(some 19), .move (.tmp 24), none, 0, false⟩,
 ⟨(some 25), .extract (.tmp 19) 0, none, 0, false⟩,
 ⟨(some 26), .extract (.tmp 19) 1, none, 0, false⟩,
 ⟨(some 2), .move (.tmp 25), none, 0, false⟩,
 ⟨(some 3), .move (.tmp 26), none, 0, false⟩])
 (.seq (.region [⟨(some 28), .move (.tmp 0), none, 0, false⟩,
 ⟨(some 29), .move (.tmp 1), none, 0, false⟩,
 ⟨(some 30), .move (.tmp 2), none, 0, false⟩,
 ⟨(some 31), .move (.tmp 4), none, 0, false⟩,
 ⟨(some 32), .call (.func 298) [(.tmp 28), (.tmp 29), (.tmp 30), (.tmp 31)], none, 0, false⟩,
 ⟨(some 27), .move (.tmp 32), none, 0, false⟩,
 ⟨(some 33), .extract (.tmp 27) 0, none, 0, false⟩,
 ⟨(some 34), .extract (.tmp 27) 1, none, 0, false⟩,
 ⟨(some 1), .move (.tmp 33), none, 0, false⟩,
 ⟨(some 2), .move (.tmp 34), none, 0, false⟩])
 (.seq (.region [⟨(some 35), .move (.tmp 2), none, 0, false⟩,
 ⟨(some 10), .move (.tmp 35), none, 0, false⟩])
 .ret)))))⟩

def L297 : LFunc := ⟨32, [.tmp 10, .tmp 11],
 (.seq (.region [⟨(some 10), .move (.const (.int .i64 0)), none, 0, false⟩,
 ⟨(some 11), .move (.const (.int .i64 0)), none, 0, false⟩])
 (.seq (.seq (.draw [⟨(some 12), .move (.tmp 4), none, 0, false⟩,
 ⟨(some 13), .move (.tmp 0), none, 0, false⟩,
 ⟨(some 14), .move (.tmp 2), none, 0, false⟩,
 ⟨(some 15), .indexAddr 14 (.tmp 13) (.tmp 14), none, 0, false⟩,
 ⟨(some 16), .loadN 14 (.tmp 15), none, 0, false⟩,
 ⟨(some 17), .move (.tmp 0), none, 0, false⟩,
 ⟨(some 18), .move (.tmp 1), none, 0, false⟩,
 ⟨(some 19), .indexAddr 14 (.tmp 17) (.tmp 18), none, 0, false⟩,
 ⟨(some 20), .loadN 14 (.tmp 19), none, 0, false⟩,
 ⟨(some 21), .call (.tmp 12) [(.tmp 16), (.tmp 20)], none, 0, true⟩,
 ⟨(some 22), .bin .lss (.tmp 21) (.const (.int .i64 0)), none, 1, false⟩])
 (.cond (.tmp 22) (.seq (.region [⟨(some 23), .move (.tmp 3), none, 0, false⟩,
 ⟨(some 24), .nilCheck (.tmp 23), none, 0, false⟩,
 ⟨(some 25), .load1 (.tmp 24), none, 0, false⟩,
 ⟨(some 26), .bin .add (.tmp 25) (.const (.int .i64 1)), none, 0, false⟩,
 ⟨(some 27), .nilCheck (.tmp 23), none, 0, false⟩,
 ⟨none, .store 1 (.tmp 27) (.tmp 26), none, 0, false⟩])
 (.seq (.region [⟨(some 28), .move (.tmp 2), none, 0, false⟩,
 ⟨(some 29), .move (.tmp 1), none, 0, false⟩,
 ⟨(some 10), .move (.tmp 28), none, 0, false⟩,
 ⟨(some 11), .move (.tmp 29), none, 0, false⟩])
 .ret))
 .skip))
 (.seq (.region [⟨(some 30), .move (.tmp 1), none, 0, false⟩,
 ⟨(some 31), .move (.tmp 2), none, 0, false⟩,
 ⟨(some 10), .move (.tmp 30), none, 0, false⟩,
 ⟨(some 11), .move (.tmp 31), none, 0, false⟩])
 .ret)))⟩

def L298 : LFunc := ⟨28, [.tmp 8, .tmp 9],
 (.seq (.region [⟨(some 8), .move (.const (.int .i64 0)), none, 0, false⟩,
 ⟨(some 9), .move (.const (.int .i64 0)), none, 0, false⟩])
 (.seq (.seq (.draw [⟨(some 10), .move (.tmp 0), none, 0, false⟩,
 ⟨(some 11), .move (.tmp 2), none, 0, false⟩,
 ⟨(some 12), .indexAddr 1 (.tmp 10) (.tmp 11), none, 0, false⟩,
 ⟨(some 13), .load1 (.tmp 12), none, 0, false⟩,
 ⟨(some 14), .move (.tmp 0), none, 0, false⟩,
 ⟨(some 15), .move (.tmp 1), none, 0, false⟩,
 ⟨(some 16), .indexAddr 1 (.tmp 14) (.tmp 15), none, 0, false⟩,
 ⟨(some 17), .load1 (.tmp 16), none, 0, false⟩,
 ⟨(some 18), .call (.func 284) [(.tmp 13), (.tmp 17)], none, 0, true⟩])
 (.cond (.tmp 18) (.seq (.region [⟨(some 19), .move (.tmp 3), none, 0, false⟩,
 ⟨(some 20), .nilCheck (.tmp 19), none, 0, false⟩,
 ⟨(some 21), .load1 (.tmp 20), none, 0, false⟩,
 ⟨(some 22), .bin .add (.tmp 21) (.const (.int .i64 1)), none, 0, false⟩,
 ⟨(some 23), .nilCheck (.tmp 19), none, 0, false⟩,
 ⟨none, .store 1 (.tmp 23) (.tmp 22), none, 0, false⟩])
 (.seq (.region [⟨(some 24), .move (.tmp 2), none, 0, false⟩,
 ⟨(some 25), .move (.tmp 1), none, 0, false⟩,
 ⟨(some 8), .move (.tmp 24), none, 0, false⟩,
 ⟨(some 9), .move (.tmp 25), none, 0, false⟩])
 .ret))
 .skip))
 (.seq (.region [⟨(some 26), .move (.tmp 1), none, 0, false⟩,
 ⟨(some 27), .move (.tmp 2), none, 0, false⟩,
 ⟨(some 8), .move (.tmp 26), none, 0, false⟩,
 ⟨(some 9), .move (.tmp 27), none, 0, false⟩])
 .ret)))⟩

end Go.Proofs.YteoibgeimmaejaaGreat.LN
