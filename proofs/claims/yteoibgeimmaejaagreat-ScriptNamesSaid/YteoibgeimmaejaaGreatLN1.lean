/- THE COMPILED FORMS of functions of the program, written by a program of ours; proved to be what the compiler gives. -/
import Derived.Test.YteoibgeimmaejaaGreatFa
namespace Go.Proofs.YteoibgeimmaejaaGreat.LN
open Go Go.L1
set_option maxRecDepth 100000
def L139 : LFunc := ⟨32, [],
 (.seq (.seq (.region [⟨(some 6), .move (.tmp 0), none, 0, false⟩,
 ⟨(some 7), .nilCheck (.tmp 6), none, 0, false⟩,
 ⟨(some 8), .fieldAddr 1 (.tmp 7), none, 0, false⟩,
 ⟨(some 9), .load1 (.tmp 8), none, 0, false⟩,
 ⟨(some 10), .len false (.tmp 9), none, 0, false⟩,
 ⟨(some 11), .move (.const (.int .i64 0)), none, 0, false⟩])
 (.block 0 (.loop (.seq (.region [⟨(some 12), .bin .lss (.tmp 11) (.tmp 10), none, 0, false⟩])
 (.seq (.cond (.tmp 12) .skip
 (.exit 0))
 (.seq (.block 1 (.seq (.region [⟨(some 13), .move (.tmp 11), none, 0, false⟩,
 ⟨(some 14), .indexAddr 65 (.tmp 9) (.tmp 11), none, 0, false⟩,
 ⟨(some 15), .loadN 65 (.tmp 14), none, 0, false⟩,
 ⟨(some 5), .alloc [(.int .i64 0), (.int .u8 0), (.int .u8 0), (.int .u8 0), (.int .u8 0), (.int .u8 0), (.int .u8 0), (.int .u8 0), (.int .u8 0), (.int .u8 0), (.int .u8 0), (.int .u8 0), (.int .u8 0), (.int .u8 0), (.int .u8 0), (.int .u8 0), (.int .u8 0), (.int .u8 0), (.int .u8 0), (.int .u8 0), (.int .u8 0), (.int .u8 0), (.int .u8 0), (.int .u8 0), (.int .u8 0), (.int .u8 0), (.int .u8 0), (.int .u8 0), (.int .u8 0), (.int .u8 0), (.int .u8 0), (.int .u8 0), (.int .u8 0), (.int .u8 0), (.int .u8 0), (.int .u8 0), (.int .u8 0), (.int .u8 0), (.int .u8 0), (.int .u8 0), (.int .u8 0), (.int .u8 0), (.int .u8 0), (.int .u8 0), (.int .u8 0), (.int .u8 0), (.int .u8 0), (.int .u8 0), (.int .u8 0), (.int .u8 0), (.int .u8 0), (.int .u8 0), (.int .u8 0), (.int .u8 0), (.int .u8 0), (.int .u8 0), (.int .u8 0), (.int .u8 0), (.int .u8 0), (.int .u8 0), (.int .u8 0), (.int .u8 0), (.int .u8 0), (.int .u8 0), (.int .u8 0)] 273, none, 0, false⟩,
 ⟨(some 4), .move (.tmp 13), none, 0, false⟩,
 ⟨none, .store 65 (.tmp 5) (.tmp 15), none, 0, false⟩])
 (.seq (.region [⟨(some 16), .move (.tmp 1), none, 0, false⟩,
 ⟨(some 17), .move (.tmp 4), none, 0, false⟩,
 ⟨(some 18), .call (.tmp 16) [(.tmp 17)], none, 0, false⟩])
 (.cond (.tmp 18) (.draw [⟨(some 19), .move (.tmp 0), none, 0, false⟩,
 ⟨(some 20), .nilCheck (.tmp 19), none, 0, false⟩,
 ⟨(some 21), .fieldAddr 0 (.tmp 20), none, 0, false⟩,
 ⟨(some 22), .load1 (.tmp 21), none, 0, false⟩,
 ⟨(some 23), .fieldAddr 0 (.tmp 5), none, 0, false⟩,
 ⟨(some 24), .load1 (.tmp 23), none, 0, false⟩,
 ⟨(some 25), .fieldAddr 1 (.tmp 5), none, 0, false⟩,
 ⟨(some 26), .loadN 64 (.tmp 25), none, 0, false⟩,
 ⟨(some 27), .indexAddr 64 (.tmp 22) (.tmp 24), none, 0, false⟩,
 ⟨none, .store 64 (.tmp 27) (.tmp 26), none, 0, true⟩])
 .skip))))
 (.region [⟨(some 28), .bin .add (.tmp 11) (.const (.int .i64 1)), none, 0, false⟩,
 ⟨(some 11), .move (.tmp 28), none, 0, false⟩])))))))
 (.region [⟨(some 29), .move (.tmp 0), none, 0, false⟩,
 ⟨(some 30), .nilCheck (.tmp 29), none, 0, false⟩,
 ⟨(some 31), .fieldAddr 1 (.tmp 30), none, 0, false⟩,
 ⟨none, .store 1 (.tmp 31) (.const (.slice none 0 0)), none, 0, false⟩]))⟩

def L140 : LFunc := ⟨14, [.tmp 3],
 (.seq (.region [⟨(some 3), .move (.const (.bool false)), none, 0, false⟩])
 (.seq (.region [⟨(some 4), .move (.tmp 0), none, 0, false⟩,
 ⟨(some 5), .load1 (.tmp 1), none, 0, false⟩,
 ⟨(some 6), .len false (.tmp 5), none, 0, false⟩,
 ⟨(some 7), .bin .lss (.tmp 4) (.tmp 6), none, 0, false⟩,
 ⟨(some 8), .move (.tmp 7), none, 0, false⟩,
 ⟨(some 9), .load1 (.tmp 1), (some (8, true)), 0, false⟩,
 ⟨(some 10), .move (.tmp 0), (some (8, true)), 0, false⟩,
 ⟨(some 11), .indexAddr 1 (.tmp 9) (.tmp 10), (some (8, true)), 0, false⟩,
 ⟨(some 12), .load1 (.tmp 11), (some (8, true)), 0, false⟩,
 ⟨(some 13), .pick (.tmp 8) (.tmp 12) (.const (.bool false)), none, 0, false⟩,
 ⟨(some 3), .move (.tmp 13), none, 0, false⟩])
 .ret))⟩

def L141 : LFunc := ⟨75, [.tmp 2, .tmp 3],
 (.seq (.region [⟨(some 2), .move (.const (.pointer none)), none, 0, false⟩,
 ⟨(some 3), .move (.const (.int .i64 0)), none, 0, false⟩])
 (.seq (.region [⟨(some 16), .move (.tmp 0), none, 0, false⟩,
 ⟨(some 17), .call (.func 181) [(.tmp 16)], none, 0, false⟩,
 ⟨(some 15), .move (.tmp 17), none, 0, false⟩,
 ⟨(some 18), .extract (.tmp 15) 0, none, 0, false⟩,
 ⟨(some 19), .extract (.tmp 15) 1, none, 0, false⟩,
 ⟨(some 4), .alloc [(.int .u64 0), (.int .u32 0), (.int .u64 0), (.int .i64 0), (.int .u64 0), (.slice none 0 0)] 181, none, 0, false⟩,
 ⟨none, .store 6 (.tmp 4) (.tmp 18), none, 0, false⟩,
 ⟨(some 5), .move (.tmp 19), none, 0, false⟩])
 (.seq (.seq (.region [⟨(some 20), .move (.tmp 5), none, 0, false⟩,
 ⟨(some 21), .un .not (.tmp 20), none, 0, false⟩])
 (.cond (.tmp 21) (.seq (.region [⟨(some 2), .move (.const (.pointer none)), none, 0, false⟩,
 ⟨(some 3), .move (.const (.int .i64 151)), none, 0, false⟩])
 .ret)
 .skip))
 (.seq (.region [⟨(some 23), .move (.tmp 0), none, 0, false⟩,
 ⟨(some 24), .fieldAddr 1 (.tmp 4), none, 0, false⟩,
 ⟨(some 25), .load1 (.tmp 24), none, 0, false⟩,
 ⟨(some 26), .fieldAddr 2 (.tmp 4), none, 0, false⟩,
 ⟨(some 27), .load1 (.tmp 26), none, 0, false⟩,
 ⟨(some 28), .fieldAddr 3 (.tmp 4), none, 0, false⟩,
 ⟨(some 29), .load1 (.tmp 28), none, 0, false⟩,
 ⟨(some 30), .call (.func 182) [(.tmp 23), (.tmp 25), (.tmp 27), (.tmp 29)], none, 0, false⟩,
 ⟨(some 22), .move (.tmp 30), none, 0, false⟩,
 ⟨(some 31), .extract (.tmp 22) 0, none, 0, false⟩,
 ⟨(some 32), .extract (.tmp 22) 1, none, 0, false⟩,
 ⟨(some 33), .extract (.tmp 22) 2, none, 0, false⟩,
 ⟨(some 6), .move (.tmp 31), none, 0, false⟩,
 ⟨(some 7), .move (.tmp 32), none, 0, false⟩,
 ⟨(some 8), .move (.tmp 33), none, 0, false⟩])
 (.seq (.seq (.region [⟨(some 34), .move (.tmp 8), none, 0, false⟩,
 ⟨(some 35), .bin .neq (.tmp 34) (.const (.int .i64 0)), none, 0, false⟩])
 (.cond (.tmp 35) (.seq (.region [⟨(some 36), .move (.tmp 8), none, 0, false⟩,
 ⟨(some 2), .move (.const (.pointer none)), none, 0, false⟩,
 ⟨(some 3), .move (.tmp 36), none, 0, false⟩])
 .ret)
 .skip))
 (.seq (.region [⟨(some 37), .fieldAddr 2 (.tmp 4), none, 0, false⟩,
 ⟨(some 38), .load1 (.tmp 37), none, 0, false⟩,
 ⟨(some 9), .move (.tmp 38), none, 0, false⟩])
 (.seq (.seq (.region [⟨(some 39), .move (.tmp 6), none, 0, false⟩,
 ⟨(some 40), .len false (.tmp 39), none, 0, false⟩,
 ⟨(some 41), .move (.const (.int .i64 0)), none, 0, false⟩])
 (.block 0 (.loop (.seq (.region [⟨(some 42), .bin .lss (.tmp 41) (.tmp 40), none, 0, false⟩])
 (.seq (.cond (.tmp 42) .skip
 (.exit 0))
 (.seq (.block 1 (.seq (.region [⟨(some 43), .indexAddr 3 (.tmp 39) (.tmp 41), none, 0, false⟩,
 ⟨(some 44), .loadN 3 (.tmp 43), none, 0, false⟩,
 ⟨(some 11), .alloc [(.int .u64 0), (.int .u32 0), (.slice none 0 0)] 255, none, 0, false⟩,
 ⟨none, .store 3 (.tmp 11) (.tmp 44), none, 0, false⟩])
 (.seq (.region [⟨(some 46), .fieldAddr 2 (.tmp 11), none, 0, false⟩,
 ⟨(some 47), .load1 (.tmp 46), none, 0, false⟩,
 ⟨(some 48), .call (.func 183) [(.tmp 47)], none, 0, false⟩,
 ⟨(some 45), .move (.tmp 48), none, 0, false⟩,
 ⟨(some 49), .extract (.tmp 45) 0, none, 0, false⟩,
 ⟨(some 50), .extract (.tmp 45) 1, none, 0, false⟩,
 ⟨(some 12), .alloc [(.int .i64 0), (.int .i64 0), (.slice none 0 0), (.slice none 0 0), (.int .u64 0), (.int .u64 0)] 159, none, 0, false⟩,
 ⟨none, .store 6 (.tmp 12) (.tmp 49), none, 0, false⟩,
 ⟨(some 13), .move (.tmp 50), none, 0, false⟩])
 (.seq (.seq (.region [⟨(some 51), .move (.tmp 13), none, 0, false⟩,
 ⟨(some 52), .bin .neq (.tmp 51) (.const (.int .i64 0)), none, 0, false⟩])
 (.cond (.tmp 52) (.exit 0)
 .skip))
 (.seq (.region [⟨(some 54), .fieldAddr 4 (.tmp 4), none, 0, false⟩,
 ⟨(some 55), .loadN 2 (.tmp 54), none, 0, false⟩,
 ⟨(some 56), .loadN 6 (.tmp 12), none, 0, false⟩,
 ⟨(some 57), .call (.func 119) [(.tmp 55), (.tmp 56)], none, 0, false⟩,
 ⟨(some 53), .move (.tmp 57), none, 0, false⟩,
 ⟨(some 58), .extract (.tmp 53) 0, none, 0, false⟩,
 ⟨(some 59), .extract (.tmp 53) 1, none, 0, false⟩,
 ⟨(some 14), .alloc [(.int .u64 0), (.slice none 0 0)] 154, none, 0, false⟩,
 ⟨none, .store 2 (.tmp 14) (.tmp 58), none, 0, false⟩,
 ⟨(some 13), .move (.tmp 59), none, 0, false⟩])
 (.seq (.seq (.region [⟨(some 60), .move (.tmp 13), none, 0, false⟩,
 ⟨(some 61), .bin .neq (.tmp 60) (.const (.int .i64 0)), none, 0, false⟩])
 (.cond (.tmp 61) (.exit 0)
 .skip))
 (.draw [⟨(some 62), .loadN 2 (.tmp 14), none, 0, false⟩,
 ⟨(some 66), .fieldAddr 4 (.tmp 4), none, 0, false⟩,
 ⟨none, .store 2 (.tmp 66) (.tmp 62), none, 0, true⟩,
 ⟨(some 63), .fieldAddr 0 (.tmp 11), none, 0, false⟩,
 ⟨(some 64), .load1 (.tmp 63), none, 0, false⟩,
 ⟨(some 65), .bin .add (.tmp 64) (.const (.int .u64 1)), none, 0, false⟩,
 ⟨(some 9), .move (.tmp 65), none, 1, false⟩])))))))
 (.region [⟨(some 67), .bin .add (.tmp 41) (.const (.int .i64 1)), none, 0, false⟩,
 ⟨(some 41), .move (.tmp 67), none, 0, false⟩])))))))
 (.seq (.region [⟨(some 68), .move (.tmp 0), none, 0, false⟩,
 ⟨(some 69), .loadN 6 (.tmp 4), none, 0, false⟩,
 ⟨(some 70), .move (.tmp 9), none, 0, false⟩,
 ⟨(some 71), .move (.tmp 7), none, 0, false⟩,
 ⟨(some 72), .call (.func 184) [(.tmp 68), (.tmp 69), (.tmp 70), (.tmp 71)], none, 0, false⟩,
 ⟨(some 73), .extract (.tmp 72) 0, none, 0, false⟩,
 ⟨(some 74), .extract (.tmp 72) 1, none, 0, false⟩,
 ⟨(some 2), .move (.tmp 73), none, 0, false⟩,
 ⟨(some 3), .move (.tmp 74), none, 0, false⟩])
 .ret))))))))⟩

def L142 : LFunc := ⟨3, [.tmp 0],
 (.seq (.region [⟨(some 0), .move (.const (.pointer none)), none, 0, false⟩])
 (.seq (.region [⟨(some 1), .build [(.slice none 0 0)] [], none, 0, false⟩,
 ⟨(some 2), .box 1 270 (.tmp 1), none, 0, false⟩,
 ⟨(some 0), .move (.tmp 2), none, 0, false⟩])
 .ret))⟩

def L143 : LFunc := ⟨100, [.cellN 4 6, .tmp 5, .tmp 6],
 (.seq (.region [⟨(some 3), .box 2 154 (.tmp 1), none, 0, false⟩,
 ⟨(some 4), .alloc [(.int .i64 0), (.int .i64 0), (.slice none 0 0), (.slice none 0 0), (.int .u64 0), (.int .u64 0)] 159, none, 0, false⟩,
 ⟨(some 5), .move (.const (.bool false)), none, 0, false⟩,
 ⟨(some 6), .move (.const (.int .i64 0)), none, 0, false⟩])
 (.seq (.region [⟨(some 18), .mkMap, none, 0, false⟩,
 ⟨(some 7), .move (.tmp 18), none, 0, false⟩])
 (.seq (.seq (.region [⟨(some 19), .move (.tmp 0), none, 0, false⟩,
 ⟨(some 20), .nilCheck (.tmp 19), none, 0, false⟩,
 ⟨(some 21), .fieldAddr 0 (.tmp 20), none, 0, false⟩,
 ⟨(some 22), .load1 (.tmp 21), none, 0, false⟩,
 ⟨(some 23), .len false (.tmp 22), none, 0, false⟩,
 ⟨(some 24), .move (.const (.int .i64 0)), none, 0, false⟩])
 (.block 0 (.loop (.seq (.region [⟨(some 25), .bin .lss (.tmp 24) (.tmp 23), none, 0, false⟩])
 (.seq (.cond (.tmp 25) .skip
 (.exit 0))
 (.seq (.block 1 (.seq (.region [⟨(some 26), .indexAddr 14 (.tmp 22) (.tmp 24), none, 0, false⟩,
 ⟨(some 27), .loadN 14 (.tmp 26), none, 0, false⟩,
 ⟨(some 9), .alloc [(.int .i64 0), (.int .u8 0), (.int .u8 0), (.int .u8 0), (.int .u8 0), (.int .i64 0), (.int .u64 0), (.int .u64 0), (.int .u64 0), (.int .u64 0), (.int .u64 0), (.int .u64 0), (.int .u64 0), (.bool false)] 228, none, 0, false⟩,
 ⟨none, .store 14 (.tmp 9) (.tmp 27), none, 0, false⟩])
 (.region [⟨(some 28), .move (.tmp 7), none, 0, false⟩,
 ⟨(some 29), .fieldAddr 0 (.tmp 9), none, 0, false⟩,
 ⟨(some 30), .fieldAddr 0 (.tmp 29), none, 0, false⟩,
 ⟨(some 31), .load1 (.tmp 30), none, 0, false⟩,
 ⟨(some 32), .loadN 14 (.tmp 9), none, 0, false⟩,
 ⟨none, .mapUpdate (.prim .n) (.tmp 28) (.tmp 31) (.tmp 32), none, 0, false⟩])))
 (.region [⟨(some 33), .bin .add (.tmp 24) (.const (.int .i64 1)), none, 0, false⟩,
 ⟨(some 24), .move (.tmp 33), none, 0, false⟩])))))))
 (.seq (.region [⟨(some 34), .build [(.int .i64 0), (.int .i64 0), (.slice none 0 0), (.slice none 0 0), (.int .u64 0), (.int .u64 0)] [(0, 1, (.const (.int .i64 1)))], none, 0, false⟩,
 ⟨(some 10), .alloc [(.int .i64 0), (.int .i64 0), (.slice none 0 0), (.slice none 0 0), (.int .u64 0), (.int .u64 0)] 159, none, 0, false⟩,
 ⟨none, .store 6 (.tmp 10) (.tmp 34), none, 0, false⟩])
 (.seq (.seq (.region [⟨(some 35), .move (.tmp 7), none, 0, false⟩,
 ⟨(some 36), .call (.func 186) [(.tmp 35)], none, 0, false⟩,
 ⟨(some 37), .call (.func 185) [(.tmp 36)], none, 0, false⟩,
 ⟨(some 38), .len false (.tmp 37), none, 0, false⟩,
 ⟨(some 39), .move (.const (.int .i64 0)), none, 0, false⟩])
 (.block 2 (.loop (.seq (.region [⟨(some 40), .bin .lss (.tmp 39) (.tmp 38), none, 0, false⟩])
 (.seq (.cond (.tmp 40) .skip
 (.exit 2))
 (.seq (.block 3 (.seq (.region [⟨(some 41), .indexAddr 1 (.tmp 37) (.tmp 39), none, 0, false⟩,
 ⟨(some 42), .load1 (.tmp 41), none, 0, false⟩,
 ⟨(some 12), .move (.tmp 42), none, 0, false⟩])
 (.seq (.region [⟨(some 43), .move (.tmp 7), none, 0, false⟩,
 ⟨(some 44), .move (.tmp 12), none, 0, false⟩,
 ⟨(some 45), .lookup (.prim .n) (.agg ⟨[(.int .i64 0), (.int .u8 0), (.int .u8 0), (.int .u8 0), (.int .u8 0), (.int .i64 0), (.int .u64 0), (.int .u64 0), (.int .u64 0), (.int .u64 0), (.int .u64 0), (.int .u64 0), (.int .u64 0), (.bool false)]⟩) false (.tmp 43) (.tmp 44), none, 0, false⟩,
 ⟨(some 13), .alloc [(.int .i64 0), (.int .u8 0), (.int .u8 0), (.int .u8 0), (.int .u8 0), (.int .i64 0), (.int .u64 0), (.int .u64 0), (.int .u64 0), (.int .u64 0), (.int .u64 0), (.int .u64 0), (.int .u64 0), (.bool false)] 228, none, 0, false⟩,
 ⟨none, .store 14 (.tmp 13) (.tmp 45), none, 0, false⟩])
 (.seq (.region [⟨(some 47), .loadN 2 (.tmp 3), none, 0, false⟩,
 ⟨(some 48), .move (.tmp 12), none, 0, false⟩,
 ⟨(some 49), .call (.func 187) [(.tmp 47), (.tmp 48)], none, 0, false⟩,
 ⟨(some 46), .move (.tmp 49), none, 0, false⟩,
 ⟨(some 50), .extract (.tmp 46) 0, none, 0, false⟩,
 ⟨(some 51), .extract (.tmp 46) 1, none, 0, false⟩,
 ⟨(some 14), .alloc [(.int .i64 0), (.int .u8 0), (.int .u8 0), (.int .u8 0), (.int .u8 0), (.int .i64 0), (.int .u64 0), (.int .u64 0), (.int .u64 0), (.int .u64 0), (.int .u64 0), (.int .u64 0), (.int .u64 0), (.int .u64 0)] 185, none, 0, false⟩,
 ⟨none, .store 14 (.tmp 14) (.tmp 50), none, 0, false⟩,
 ⟨(some 15), .move (.tmp 51), none, 0, false⟩])
 (.block 4 (.seq (.region [⟨(some 53), .fieldAddr 13 (.tmp 13), none, 0, false⟩,
 ⟨(some 54), .load1 (.tmp 53), none, 0, false⟩,
 ⟨(some 55), .move (.tmp 54), none, 0, false⟩,
 ⟨(some 56), .fieldAddr 0 (.tmp 13), (some (55, true)), 0, false⟩,
 ⟨(some 57), .loadN 13 (.tmp 56), (some (55, true)), 0, false⟩,
 ⟨(some 58), .call (.func 188) [(.tmp 57)], (some (55, true)), 0, false⟩,
 ⟨(some 59), .un .not (.tmp 58), (some (55, true)), 0, false⟩,
 ⟨(some 60), .pick (.tmp 55) (.tmp 59) (.const (.bool false)), none, 0, false⟩,
 ⟨(some 52), .move (.tmp 60), none, 0, false⟩])
 (.cond (.tmp 52) (.seq (.region [⟨(some 61), .build [(.int .i64 0), (.int .i64 0), (.slice none 0 0), (.slice none 0 0), (.int .u64 0), (.int .u64 0)] [], none, 0, false⟩,
 ⟨none, .store 6 (.tmp 4) (.tmp 61), none, 0, false⟩,
 ⟨(some 5), .move (.const (.bool false)), none, 0, false⟩,
 ⟨(some 6), .move (.const (.int .i64 111)), none, 0, false⟩])
 .ret)
 (.seq (.region [⟨(some 63), .fieldAddr 13 (.tmp 13), none, 0, false⟩,
 ⟨(some 64), .load1 (.tmp 63), none, 0, false⟩,
 ⟨(some 62), .move (.tmp 64), none, 0, false⟩])
 (.cond (.tmp 62) (.region [⟨(some 65), .fieldAddr 2 (.tmp 10), none, 0, false⟩,
 ⟨(some 66), .load1 (.tmp 65), none, 0, false⟩,
 ⟨(some 67), .fieldAddr 0 (.tmp 13), none, 0, false⟩,
 ⟨(some 68), .loadN 13 (.tmp 67), none, 0, false⟩,
 ⟨(some 69), .buildSlice 1 13 34 [(.int .i64 0), (.int .u8 0), (.int .u8 0), (.int .u8 0), (.int .u8 0), (.int .i64 0), (.int .u64 0), (.int .u64 0), (.int .u64 0), (.int .u64 0), (.int .u64 0), (.int .u64 0), (.int .u64 0)] [(0, 13, (.tmp 68))], none, 0, false⟩,
 ⟨(some 70), .append 13 80 34 [(.int .i64 0), (.int .u8 0), (.int .u8 0), (.int .u8 0), (.int .u8 0), (.int .i64 0), (.int .u64 0), (.int .u64 0), (.int .u64 0), (.int .u64 0), (.int .u64 0), (.int .u64 0), (.int .u64 0)] false (.tmp 66) (.tmp 69), none, 0, false⟩,
 ⟨(some 71), .fieldAddr 2 (.tmp 10), none, 0, false⟩,
 ⟨none, .store 1 (.tmp 71) (.tmp 70), none, 0, false⟩])
 (.seq (.region [⟨(some 73), .move (.tmp 15), none, 0, false⟩,
 ⟨(some 72), .move (.tmp 73), none, 0, false⟩])
 (.cond (.tmp 72) (.region [⟨(some 74), .fieldAddr 3 (.tmp 10), none, 0, false⟩,
 ⟨(some 75), .load1 (.tmp 74), none, 0, false⟩,
 ⟨(some 76), .move (.tmp 12), none, 0, false⟩,
 ⟨(some 77), .buildSlice 1 1 3 [(.int .i64 0)] [(0, 1, (.tmp 76))], none, 0, false⟩,
 ⟨(some 78), .append 1 8 3 [(.int .i64 0)] false (.tmp 75) (.tmp 77), none, 0, false⟩,
 ⟨(some 79), .fieldAddr 3 (.tmp 10), none, 0, false⟩,
 ⟨none, .store 1 (.tmp 79) (.tmp 78), none, 0, false⟩])
 .skip)))))))))))
 (.region [⟨(some 80), .bin .add (.tmp 39) (.const (.int .i64 1)), none, 0, false⟩,
 ⟨(some 39), .move (.tmp 80), none, 0, false⟩])))))))
 (.seq (.seq (.region [⟨(some 81), .fieldAddr 2 (.tmp 10), none, 0, false⟩,
 ⟨(some 82), .load1 (.tmp 81), none, 0, false⟩,
 ⟨(some 83), .len false (.tmp 82), none, 0, false⟩,
 ⟨(some 84), .fieldAddr 3 (.tmp 10), none, 0, false⟩,
 ⟨(some 85), .load1 (.tmp 84), none, 0, false⟩,
 ⟨(some 86), .len false (.tmp 85), none, 0, false⟩,
 ⟨(some 87), .bin .add (.tmp 83) (.tmp 86), none, 0, false⟩,
 ⟨(some 88), .bin .eql (.tmp 87) (.const (.int .i64 0)), none, 0, false⟩])
 (.cond (.tmp 88) (.seq (.region [⟨(some 89), .build [(.int .i64 0), (.int .i64 0), (.slice none 0 0), (.slice none 0 0), (.int .u64 0), (.int .u64 0)] [], none, 0, false⟩,
 ⟨none, .store 6 (.tmp 4) (.tmp 89), none, 0, false⟩,
 ⟨(some 5), .move (.const (.bool false)), none, 0, false⟩,
 ⟨(some 6), .move (.const (.int .i64 0)), none, 0, false⟩])
 .ret)
 .skip))
 (.seq (.seq (.region [⟨(some 91), .loadN 2 (.tmp 3), none, 0, false⟩,
 ⟨(some 92), .loadN 6 (.tmp 10), none, 0, false⟩,
 ⟨(some 93), .call (.func 119) [(.tmp 91), (.tmp 92)], none, 0, false⟩,
 ⟨(some 90), .move (.tmp 93), none, 0, false⟩,
 ⟨(some 94), .extract (.tmp 90) 0, none, 0, false⟩,
 ⟨(some 95), .extract (.tmp 90) 1, none, 0, false⟩,
 ⟨(some 16), .alloc [(.int .u64 0), (.slice none 0 0)] 154, none, 0, false⟩,
 ⟨none, .store 2 (.tmp 16) (.tmp 94), none, 0, false⟩,
 ⟨(some 17), .move (.tmp 95), none, 0, false⟩])
 (.seq (.region [⟨(some 96), .move (.tmp 17), none, 0, false⟩,
 ⟨(some 97), .bin .neq (.tmp 96) (.const (.int .i64 0)), none, 0, false⟩])
 (.cond (.tmp 97) (.seq (.region [⟨(some 98), .build [(.int .i64 0), (.int .i64 0), (.slice none 0 0), (.slice none 0 0), (.int .u64 0), (.int .u64 0)] [], none, 0, false⟩,
 ⟨none, .store 6 (.tmp 4) (.tmp 98), none, 0, false⟩,
 ⟨(some 5), .move (.const (.bool false)), none, 0, false⟩,
 ⟨(some 6), .move (.const (.int .i64 111)), none, 0, false⟩])
 .ret)
 .skip)))
 (.seq (.region [⟨(some 99), .loadN 6 (.tmp 10), none, 0, false⟩,
 ⟨none, .store 6 (.tmp 4) (.tmp 99), none, 0, false⟩,
 ⟨(some 5), .move (.const (.bool true)), none, 0, false⟩,
 ⟨(some 6), .move (.const (.int .i64 0)), none, 0, false⟩])
 .ret))))))))⟩

def L144 : LFunc := ⟨18, [],
 (.seq (.region [⟨(some 4), .move (.tmp 0), none, 0, false⟩,
 ⟨(some 5), .move (.tmp 1), none, 0, false⟩,
 ⟨(some 6), .call (.func 145) [(.tmp 4), (.tmp 5)], none, 0, false⟩])
 (.seq (.region [⟨(some 7), .move (.tmp 0), none, 0, false⟩,
 ⟨(some 8), .nilCheck (.tmp 7), none, 0, false⟩,
 ⟨(some 9), .fieldAddr 6 (.tmp 8), none, 0, false⟩,
 ⟨(some 10), .load1 (.tmp 9), none, 0, false⟩,
 ⟨(some 11), .move (.tmp 1), none, 0, false⟩,
 ⟨(some 12), .call (.func 189) [(.tmp 10), (.tmp 11)], none, 0, false⟩])
 (.region [⟨(some 13), .move (.tmp 0), none, 0, false⟩,
 ⟨(some 14), .nilCheck (.tmp 13), none, 0, false⟩,
 ⟨(some 15), .fieldAddr 5 (.tmp 14), none, 0, false⟩,
 ⟨(some 16), .load1 (.tmp 15), none, 0, false⟩,
 ⟨(some 17), .move (.tmp 1), none, 0, false⟩,
 ⟨none, .delete (.prim .n) (.tmp 16) (.tmp 17), none, 0, false⟩])))⟩

def L145 : LFunc := ⟨26, [],
 (.seq (.region [⟨(some 7), .move (.tmp 0), none, 0, false⟩,
 ⟨(some 8), .nilCheck (.tmp 7), none, 0, false⟩,
 ⟨(some 9), .fieldAddr 5 (.tmp 8), none, 0, false⟩,
 ⟨(some 10), .load1 (.tmp 9), none, 0, false⟩,
 ⟨(some 11), .move (.tmp 1), none, 0, false⟩,
 ⟨(some 12), .lookup (.prim .n) (.pointer none) true (.tmp 10) (.tmp 11), none, 0, false⟩,
 ⟨(some 6), .move (.tmp 12), none, 0, false⟩,
 ⟨(some 13), .extract (.tmp 6) 0, none, 0, false⟩,
 ⟨(some 14), .extract (.tmp 6) 1, none, 0, false⟩,
 ⟨(some 4), .move (.tmp 13), none, 0, false⟩,
 ⟨(some 5), .move (.tmp 14), none, 0, false⟩])
 (.seq (.region [⟨(some 15), .move (.tmp 5), none, 0, false⟩])
 (.cond (.tmp 15) (.draw [⟨(some 16), .move (.tmp 0), none, 0, false⟩,
 ⟨(some 17), .nilCheck (.tmp 16), none, 0, false⟩,
 ⟨(some 18), .fieldAddr 7 (.tmp 17), none, 0, false⟩,
 ⟨(some 19), .load1 (.tmp 18), none, 0, false⟩,
 ⟨(some 20), .move (.tmp 4), none, 0, false⟩,
 ⟨(some 21), .nilCheck (.tmp 20), none, 0, false⟩,
 ⟨(some 22), .fieldAddr 1 (.tmp 21), none, 0, false⟩,
 ⟨(some 23), .fieldAddr 1 (.tmp 22), none, 0, false⟩,
 ⟨(some 24), .loadN 5 (.tmp 23), none, 0, false⟩,
 ⟨(some 25), .call (.func 190) [(.tmp 19), (.tmp 24)], none, 0, true⟩])
 .skip)))⟩

def L146 : LFunc := ⟨92, [.tmp 4],
 (.seq (.region [⟨(some 3), .box 13 34 (.tmp 1), none, 0, false⟩,
 ⟨(some 4), .move (.const (.int .i64 0)), none, 0, false⟩])
 (.seq (.draw [⟨(some 12), .move (.tmp 0), none, 0, false⟩,
 ⟨(some 13), .nilCheck (.tmp 12), none, 0, false⟩,
 ⟨(some 14), .fieldAddr 5 (.tmp 13), none, 0, false⟩,
 ⟨(some 15), .load1 (.tmp 14), none, 0, false⟩,
 ⟨(some 16), .fieldAddr 0 (.tmp 3), none, 0, false⟩,
 ⟨(some 17), .load1 (.tmp 16), none, 0, false⟩,
 ⟨(some 18), .lookup (.prim .n) (.pointer none) true (.tmp 15) (.tmp 17), none, 0, false⟩,
 ⟨(some 11), .move (.tmp 18), none, 0, false⟩,
 ⟨(some 19), .extract (.tmp 11) 0, none, 0, false⟩,
 ⟨(some 20), .extract (.tmp 11) 1, none, 0, false⟩,
 ⟨(some 5), .move (.tmp 19), none, 0, false⟩,
 ⟨(some 6), .move (.tmp 20), none, 0, false⟩])
 (.seq (.seq (.region [⟨(some 21), .move (.tmp 6), none, 0, false⟩,
 ⟨(some 22), .un .not (.tmp 21), none, 0, false⟩])
 (.cond (.tmp 22) (.seq (.draw [⟨(some 24), .move (.tmp 0), none, 0, false⟩,
 ⟨(some 25), .nilCheck (.tmp 24), none, 0, false⟩,
 ⟨(some 26), .fieldAddr 4 (.tmp 25), none, 0, false⟩,
 ⟨(some 27), .load1 (.tmp 26), none, 0, false⟩,
 ⟨(some 28), .call (.func 79) [(.tmp 27)], none, 0, true⟩,
 ⟨(some 29), .fieldAddr 0 (.tmp 3), none, 0, false⟩,
 ⟨(some 30), .load1 (.tmp 29), none, 0, false⟩,
 ⟨(some 31), .call (.func 187) [(.tmp 28), (.tmp 30)], none, 1, true⟩,
 ⟨(some 23), .move (.tmp 31), none, 2, false⟩,
 ⟨(some 32), .extract (.tmp 23) 0, none, 2, false⟩,
 ⟨(some 7), .alloc [(.int .i64 0), (.int .u8 0), (.int .u8 0), (.int .u8 0), (.int .u8 0), (.int .i64 0), (.int .u64 0), (.int .u64 0), (.int .u64 0), (.int .u64 0), (.int .u64 0), (.int .u64 0), (.int .u64 0), (.int .u64 0)] 185, none, 0, false⟩,
 ⟨none, .store 14 (.tmp 7) (.tmp 32), none, 2, true⟩,
 ⟨(some 33), .extract (.tmp 23) 1, none, 2, false⟩,
 ⟨(some 8), .move (.tmp 33), none, 3, false⟩])
 (.seq (.region [⟨(some 34), .move (.tmp 0), none, 0, false⟩,
 ⟨(some 35), .loadN 14 (.tmp 7), none, 0, false⟩,
 ⟨(some 36), .call (.func 111) [(.tmp 34), (.tmp 35)], none, 0, false⟩,
 ⟨(some 4), .move (.tmp 36), none, 0, false⟩])
 .ret))
 .skip))
 (.seq (.region [⟨(some 37), .move (.tmp 5), none, 0, false⟩,
 ⟨(some 38), .loadN 13 (.tmp 3), none, 0, false⟩,
 ⟨(some 39), .nilCheck (.tmp 37), none, 0, false⟩,
 ⟨(some 40), .fieldAddr 1 (.tmp 39), none, 0, false⟩,
 ⟨none, .store 13 (.tmp 40) (.tmp 38), none, 0, false⟩])
 (.seq (.draw [⟨(some 41), .move (.tmp 5), none, 0, false⟩,
 ⟨(some 42), .nilCheck (.tmp 41), none, 0, false⟩,
 ⟨(some 43), .fieldAddr 14 (.tmp 42), none, 0, false⟩,
 ⟨(some 44), .load1 (.tmp 43), none, 0, false⟩,
 ⟨(some 45), .fieldAddr 6 (.tmp 3), none, 0, false⟩,
 ⟨(some 46), .load1 (.tmp 45), none, 0, false⟩,
 ⟨(some 47), .fieldAddr 7 (.tmp 3), none, 0, false⟩,
 ⟨(some 48), .load1 (.tmp 47), none, 0, false⟩,
 ⟨(some 49), .call (.func 191) [(.tmp 44), (.tmp 46), (.tmp 48)], none, 0, true⟩])
 (.seq (.draw [⟨(some 50), .move (.tmp 5), none, 0, false⟩,
 ⟨(some 51), .nilCheck (.tmp 50), none, 0, false⟩,
 ⟨(some 52), .fieldAddr 15 (.tmp 51), none, 0, false⟩,
 ⟨(some 53), .load1 (.tmp 52), none, 0, false⟩,
 ⟨(some 54), .fieldAddr 8 (.tmp 3), none, 0, false⟩,
 ⟨(some 55), .load1 (.tmp 54), none, 0, false⟩,
 ⟨(some 56), .fieldAddr 9 (.tmp 3), none, 0, false⟩,
 ⟨(some 57), .load1 (.tmp 56), none, 0, false⟩,
 ⟨(some 58), .call (.func 191) [(.tmp 53), (.tmp 55), (.tmp 57)], none, 0, true⟩])
 (.seq (.seq (.draw [⟨(some 59), .move (.tmp 5), none, 0, false⟩,
 ⟨(some 60), .nilCheck (.tmp 59), none, 0, false⟩,
 ⟨(some 61), .fieldAddr 16 (.tmp 60), none, 0, false⟩,
 ⟨(some 62), .load1 (.tmp 61), none, 0, false⟩,
 ⟨(some 63), .fieldAddr 10 (.tmp 3), none, 0, false⟩,
 ⟨(some 64), .load1 (.tmp 63), none, 0, false⟩,
 ⟨(some 65), .fieldAddr 11 (.tmp 3), none, 0, false⟩,
 ⟨(some 66), .load1 (.tmp 65), none, 0, false⟩,
 ⟨(some 67), .call (.func 192) [(.tmp 62), (.tmp 64), (.tmp 66)], none, 0, true⟩,
 ⟨(some 9), .move (.tmp 67), none, 1, false⟩])
 (.seq (.region [⟨(some 68), .move (.tmp 9), none, 0, false⟩,
 ⟨(some 69), .bin .neq (.tmp 68) (.const (.int .i64 0)), none, 0, false⟩])
 (.cond (.tmp 69) (.seq (.region [⟨(some 70), .move (.tmp 9), none, 0, false⟩,
 ⟨(some 4), .move (.tmp 70), none, 0, false⟩])
 .ret)
 .skip)))
 (.seq (.seq (.draw [⟨(some 71), .move (.tmp 0), none, 0, false⟩,
 ⟨(some 72), .nilCheck (.tmp 71), none, 0, false⟩,
 ⟨(some 73), .fieldAddr 7 (.tmp 72), none, 0, false⟩,
 ⟨(some 74), .load1 (.tmp 73), none, 0, false⟩,
 ⟨(some 75), .fieldAddr 1 (.tmp 3), none, 0, false⟩,
 ⟨(some 76), .loadN 5 (.tmp 75), none, 0, false⟩,
 ⟨(some 77), .fieldAddr 0 (.tmp 3), none, 0, false⟩,
 ⟨(some 78), .load1 (.tmp 77), none, 0, false⟩,
 ⟨(some 79), .call (.func 154) [(.tmp 74), (.tmp 76), (.tmp 78)], none, 0, true⟩,
 ⟨(some 10), .move (.tmp 79), none, 1, false⟩])
 (.seq (.region [⟨(some 80), .move (.tmp 10), none, 0, false⟩,
 ⟨(some 81), .bin .neq (.tmp 80) (.const (.int .i64 0)), none, 0, false⟩])
 (.cond (.tmp 81) (.seq (.region [⟨(some 82), .move (.tmp 10), none, 0, false⟩,
 ⟨(some 4), .move (.tmp 82), none, 0, false⟩])
 .ret)
 .skip)))
 (.seq (.draw [⟨(some 83), .move (.tmp 0), none, 0, false⟩,
 ⟨(some 84), .nilCheck (.tmp 83), none, 0, false⟩,
 ⟨(some 85), .fieldAddr 6 (.tmp 84), none, 0, false⟩,
 ⟨(some 86), .load1 (.tmp 85), none, 0, false⟩,
 ⟨(some 87), .fieldAddr 0 (.tmp 3), none, 0, false⟩,
 ⟨(some 88), .load1 (.tmp 87), none, 0, false⟩,
 ⟨(some 89), .fieldAddr 12 (.tmp 3), none, 0, false⟩,
 ⟨(some 90), .load1 (.tmp 89), none, 0, false⟩,
 ⟨(some 91), .call (.func 155) [(.tmp 86), (.tmp 88), (.tmp 90)], none, 0, true⟩,
 ⟨(some 4), .move (.tmp 91), none, 1, false⟩])
 .ret)))))))))⟩

def L147 : LFunc := ⟨35, [.tmp 2],
 (.seq (.region [⟨(some 2), .move (.const (.int .i64 0)), none, 0, false⟩])
 (.seq (.draw [⟨(some 14), .move (.tmp 0), none, 0, false⟩,
 ⟨(some 15), .nilCheck (.tmp 14), none, 0, false⟩,
 ⟨(some 16), .fieldAddr 1 (.tmp 15), none, 0, false⟩,
 ⟨(some 17), .load1 (.tmp 16), none, 0, false⟩,
 ⟨(some 18), .call (.func 166) [(.tmp 17)], none, 0, true⟩,
 ⟨(some 19), .move (.tmp 0), none, 0, false⟩,
 ⟨(some 20), .nilCheck (.tmp 19), none, 0, false⟩,
 ⟨(some 21), .fieldAddr 1 (.tmp 20), none, 0, false⟩,
 ⟨(some 22), .load1 (.tmp 21), none, 0, false⟩,
 ⟨(some 23), .call (.func 193) [(.tmp 22)], none, 1, true⟩,
 ⟨(some 6), .move (.tmp 0), none, 0, false⟩,
 ⟨(some 7), .nilCheck (.tmp 6), none, 0, false⟩,
 ⟨(some 8), .fieldAddr 0 (.tmp 7), none, 0, false⟩,
 ⟨(some 9), .load1 (.tmp 8), none, 0, false⟩,
 ⟨(some 10), .move (.tmp 0), none, 0, false⟩,
 ⟨(some 11), .nilCheck (.tmp 10), none, 0, false⟩,
 ⟨(some 12), .fieldAddr 2 (.tmp 11), none, 0, false⟩,
 ⟨(some 13), .loadN 6 (.tmp 12), none, 0, false⟩,
 ⟨(some 24), .call (.func 184) [(.tmp 9), (.tmp 13), (.tmp 18), (.tmp 23)], none, 2, true⟩,
 ⟨(some 5), .move (.tmp 24), none, 3, false⟩,
 ⟨(some 25), .extract (.tmp 5) 0, none, 3, false⟩,
 ⟨(some 26), .extract (.tmp 5) 1, none, 3, false⟩,
 ⟨(some 3), .move (.tmp 25), none, 3, false⟩,
 ⟨(some 4), .move (.tmp 26), none, 3, false⟩])
 (.seq (.seq (.region [⟨(some 27), .move (.tmp 4), none, 0, false⟩,
 ⟨(some 28), .bin .eql (.tmp 27) (.const (.int .i64 0)), none, 0, false⟩])
 (.cond (.tmp 28) (.region [⟨(some 29), .move (.tmp 0), none, 0, false⟩,
 ⟨(some 30), .move (.tmp 3), none, 0, false⟩,
 ⟨(some 31), .nilCheck (.tmp 30), none, 0, false⟩,
 ⟨(some 32), .loadN 8 (.tmp 31), none, 0, false⟩,
 ⟨(some 33), .nilCheck (.tmp 29), none, 0, false⟩,
 ⟨none, .store 8 (.tmp 33) (.tmp 32), none, 0, false⟩])
 .skip))
 (.seq (.region [⟨(some 34), .move (.tmp 4), none, 0, false⟩,
 ⟨(some 2), .move (.tmp 34), none, 0, false⟩])
 .ret))))⟩

def L148 : LFunc := ⟨5, [.tmp 2],
 (.seq (.region [⟨(some 2), .move (.const (.int .i64 0)), none, 0, false⟩])
 (.seq (.region [⟨(some 3), .move (.tmp 0), none, 0, false⟩,
 ⟨(some 4), .call (.func 194) [(.tmp 3)], none, 0, false⟩,
 ⟨(some 2), .move (.tmp 4), none, 0, false⟩])
 .ret))⟩

def L149 : LFunc := ⟨50, [.tmp 4],
 (.seq (.region [⟨(some 3), .box 6 181 (.tmp 1), none, 0, false⟩,
 ⟨(some 4), .move (.const (.int .i64 0)), none, 0, false⟩])
 (.seq (.region [⟨(some 13), .move (.tmp 0), none, 0, false⟩,
 ⟨(some 14), .loadN 6 (.tmp 3), none, 0, false⟩,
 ⟨(some 15), .call (.func 195) [(.tmp 13), (.tmp 14)], none, 0, false⟩,
 ⟨(some 12), .move (.tmp 15), none, 0, false⟩,
 ⟨(some 16), .extract (.tmp 12) 0, none, 0, false⟩,
 ⟨(some 17), .extract (.tmp 12) 1, none, 0, false⟩,
 ⟨(some 5), .alloc [(.int .u64 0), (.int .u32 0), (.slice none 0 0)] 255, none, 0, false⟩,
 ⟨none, .store 3 (.tmp 5) (.tmp 16), none, 0, false⟩,
 ⟨(some 6), .move (.tmp 17), none, 0, false⟩])
 (.seq (.seq (.region [⟨(some 18), .move (.tmp 6), none, 0, false⟩,
 ⟨(some 19), .bin .neq (.tmp 18) (.const (.int .i64 0)), none, 0, false⟩])
 (.cond (.tmp 19) (.seq (.region [⟨(some 20), .move (.tmp 6), none, 0, false⟩,
 ⟨(some 4), .move (.tmp 20), none, 0, false⟩])
 .ret)
 .skip))
 (.seq (.region [⟨(some 22), .loadN 3 (.tmp 5), none, 0, false⟩,
 ⟨(some 23), .call (.func 168) [(.tmp 22)], none, 0, false⟩,
 ⟨(some 21), .move (.tmp 23), none, 0, false⟩,
 ⟨(some 24), .extract (.tmp 21) 0, none, 0, false⟩,
 ⟨(some 25), .extract (.tmp 21) 1, none, 0, false⟩,
 ⟨(some 7), .move (.tmp 24), none, 0, false⟩,
 ⟨(some 6), .move (.tmp 25), none, 0, false⟩])
 (.seq (.seq (.region [⟨(some 26), .move (.tmp 6), none, 0, false⟩,
 ⟨(some 27), .bin .neq (.tmp 26) (.const (.int .i64 0)), none, 0, false⟩])
 (.cond (.tmp 27) (.seq (.region [⟨(some 4), .move (.const (.int .i64 141)), none, 0, false⟩])
 .ret)
 .skip))
 (.seq (.region [⟨(some 28), .fieldAddr 0 (.tmp 3), none, 0, false⟩,
 ⟨(some 29), .load1 (.tmp 28), none, 0, false⟩,
 ⟨(some 30), .call (.func 196) [(.tmp 29)], none, 0, false⟩,
 ⟨(some 8), .move (.tmp 30), none, 0, false⟩])
 (.seq (.seq (.region [⟨(some 31), .move (.tmp 7), none, 0, false⟩,
 ⟨(some 32), .len false (.tmp 31), none, 0, false⟩,
 ⟨(some 33), .move (.const (.int .i64 0)), none, 0, false⟩])
 (.block 0 (.loop (.seq (.region [⟨(some 34), .bin .lss (.tmp 33) (.tmp 32), none, 0, false⟩])
 (.seq (.cond (.tmp 34) .skip
 (.exit 0))
 (.seq (.block 1 (.seq (.region [⟨(some 35), .move (.tmp 33), none, 0, false⟩,
 ⟨(some 36), .indexAddr 64 (.tmp 31) (.tmp 33), none, 0, false⟩,
 ⟨(some 37), .loadN 64 (.tmp 36), none, 0, false⟩,
 ⟨(some 10), .alloc [(.int .u8 0), (.int .u8 0), (.int .u8 0), (.int .u8 0), (.int .u8 0), (.int .u8 0), (.int .u8 0), (.int .u8 0), (.int .u8 0), (.int .u8 0), (.int .u8 0), (.int .u8 0), (.int .u8 0), (.int .u8 0), (.int .u8 0), (.int .u8 0), (.int .u8 0), (.int .u8 0), (.int .u8 0), (.int .u8 0), (.int .u8 0), (.int .u8 0), (.int .u8 0), (.int .u8 0), (.int .u8 0), (.int .u8 0), (.int .u8 0), (.int .u8 0), (.int .u8 0), (.int .u8 0), (.int .u8 0), (.int .u8 0), (.int .u8 0), (.int .u8 0), (.int .u8 0), (.int .u8 0), (.int .u8 0), (.int .u8 0), (.int .u8 0), (.int .u8 0), (.int .u8 0), (.int .u8 0), (.int .u8 0), (.int .u8 0), (.int .u8 0), (.int .u8 0), (.int .u8 0), (.int .u8 0), (.int .u8 0), (.int .u8 0), (.int .u8 0), (.int .u8 0), (.int .u8 0), (.int .u8 0), (.int .u8 0), (.int .u8 0), (.int .u8 0), (.int .u8 0), (.int .u8 0), (.int .u8 0), (.int .u8 0), (.int .u8 0), (.int .u8 0), (.int .u8 0)] 262, none, 0, false⟩,
 ⟨(some 9), .move (.tmp 35), none, 0, false⟩,
 ⟨none, .store 64 (.tmp 10) (.tmp 37), none, 0, false⟩])
 (.seq (.region [⟨(some 38), .move (.tmp 0), none, 0, false⟩,
 ⟨(some 39), .move (.tmp 8), none, 0, false⟩,
 ⟨(some 40), .move (.tmp 9), none, 0, false⟩,
 ⟨(some 41), .bin .add (.tmp 39) (.tmp 40), none, 0, false⟩,
 ⟨(some 42), .loadN 64 (.tmp 10), none, 0, false⟩,
 ⟨(some 43), .call (.func 171) [(.tmp 38), (.tmp 41), (.tmp 42)], none, 0, false⟩,
 ⟨(some 11), .move (.tmp 43), none, 0, false⟩])
 (.seq (.region [⟨(some 44), .move (.tmp 11), none, 0, false⟩,
 ⟨(some 45), .bin .neq (.tmp 44) (.const (.int .i64 0)), none, 0, false⟩])
 (.cond (.tmp 45) (.seq (.region [⟨(some 46), .move (.tmp 11), none, 0, false⟩,
 ⟨(some 4), .move (.tmp 46), none, 0, false⟩])
 .ret)
 .skip)))))
 (.region [⟨(some 47), .bin .add (.tmp 33) (.const (.int .i64 1)), none, 0, false⟩,
 ⟨(some 33), .move (.tmp 47), none, 0, false⟩])))))))
 (.seq (.region [⟨(some 48), .move (.tmp 0), none, 0, false⟩,
 ⟨(some 49), .call (.func 172) [(.tmp 48)], none, 0, false⟩,
 ⟨(some 4), .move (.tmp 49), none, 0, false⟩])
 .ret))))))))⟩

def L150 : LFunc := ⟨31, [.tmp 8, .tmp 9],
 (.seq (.region [⟨(some 8), .move (.const (.pointer none)), none, 0, false⟩,
 ⟨(some 9), .move (.const (.int .i64 0)), none, 0, false⟩])
 (.seq (.seq (.region [⟨(some 13), .move (.tmp 0), none, 0, false⟩,
 ⟨(some 14), .call (.func 107) [(.tmp 13)], none, 0, false⟩,
 ⟨(some 15), .move (.tmp 3), none, 0, false⟩,
 ⟨(some 16), .call (.func 170) [(.tmp 14), (.tmp 15)], none, 0, false⟩,
 ⟨(some 12), .move (.tmp 16), none, 0, false⟩,
 ⟨(some 17), .extract (.tmp 12) 0, none, 0, false⟩,
 ⟨(some 18), .extract (.tmp 12) 1, none, 0, false⟩,
 ⟨(some 10), .move (.tmp 17), none, 0, false⟩,
 ⟨(some 11), .move (.tmp 18), none, 0, false⟩])
 (.seq (.region [⟨(some 19), .move (.tmp 11), none, 0, false⟩,
 ⟨(some 20), .bin .neq (.tmp 19) (.const (.int .i64 0)), none, 0, false⟩])
 (.cond (.tmp 20) (.seq (.region [⟨(some 21), .move (.tmp 11), none, 0, false⟩,
 ⟨(some 8), .move (.const (.pointer none)), none, 0, false⟩,
 ⟨(some 9), .move (.tmp 21), none, 0, false⟩])
 .ret)
 .skip)))
 (.seq (.seq (.region [⟨(some 22), .move (.tmp 2), none, 0, false⟩,
 ⟨(some 23), .bin .eql (.tmp 22) (.const (.int .u64 0)), none, 0, false⟩])
 (.cond (.tmp 23) (.seq (.region [⟨(some 8), .move (.const (.pointer none)), none, 0, false⟩,
 ⟨(some 9), .move (.const (.int .i64 81)), none, 0, false⟩])
 .ret)
 .skip))
 (.seq (.region [⟨(some 24), .move (.tmp 0), none, 0, false⟩,
 ⟨(some 25), .move (.tmp 1), none, 0, false⟩,
 ⟨(some 26), .move (.tmp 2), none, 0, false⟩,
 ⟨(some 27), .move (.tmp 3), none, 0, false⟩,
 ⟨(some 28), .move (.tmp 3), none, 0, false⟩,
 ⟨(some 29), .build [(.pointer none), (.int .u32 0), (.int .u64 0), (.int .i64 0), (.int .i64 0), (.int .i64 0)] [(0, 1, (.tmp 24)), (1, 1, (.tmp 25)), (2, 1, (.tmp 26)), (3, 1, (.tmp 27)), (4, 1, (.tmp 28))], none, 0, false⟩,
 ⟨(some 30), .box 6 253 (.tmp 29), none, 0, false⟩,
 ⟨(some 8), .move (.tmp 30), none, 0, false⟩,
 ⟨(some 9), .move (.const (.int .i64 0)), none, 0, false⟩])
 .ret))))⟩

def L151 : LFunc := ⟨23, [.tmp 6, .tmp 7],
 (.seq (.region [⟨(some 6), .move (.const (.pointer none)), none, 0, false⟩,
 ⟨(some 7), .move (.const (.int .i64 0)), none, 0, false⟩])
 (.seq (.seq (.region [⟨(some 9), .move (.tmp 0), none, 0, false⟩,
 ⟨(some 10), .move (.tmp 1), none, 0, false⟩,
 ⟨(some 11), .move (.tmp 2), none, 0, false⟩,
 ⟨(some 12), .buildSlice 3 1 26 [(.int .u64 0), (.int .u64 0), (.int .u64 0)] [(0, 1, (.tmp 9)), (1, 1, (.tmp 10)), (2, 1, (.tmp 11))], none, 0, false⟩,
 ⟨(some 13), .call (.func 197) [(.tmp 12)], none, 0, false⟩,
 ⟨(some 8), .move (.tmp 13), none, 0, false⟩])
 (.seq (.region [⟨(some 14), .move (.tmp 8), none, 0, false⟩,
 ⟨(some 15), .bin .neq (.tmp 14) (.const (.int .i64 0)), none, 0, false⟩])
 (.cond (.tmp 15) (.seq (.region [⟨(some 16), .move (.tmp 8), none, 0, false⟩,
 ⟨(some 6), .move (.const (.pointer none)), none, 0, false⟩,
 ⟨(some 7), .move (.tmp 16), none, 0, false⟩])
 .ret)
 .skip)))
 (.seq (.region [⟨(some 17), .move (.tmp 0), none, 0, false⟩,
 ⟨(some 18), .move (.tmp 1), none, 0, false⟩,
 ⟨(some 19), .move (.tmp 2), none, 0, false⟩,
 ⟨(some 20), .move (.tmp 2), none, 0, false⟩,
 ⟨(some 21), .build [(.int .u64 0), (.int .u64 0), (.int .u64 0), (.int .u64 0)] [(0, 1, (.tmp 17)), (1, 1, (.tmp 18)), (2, 1, (.tmp 19)), (3, 1, (.tmp 20))], none, 0, false⟩,
 ⟨(some 22), .box 4 218 (.tmp 21), none, 0, false⟩,
 ⟨(some 6), .move (.tmp 22), none, 0, false⟩,
 ⟨(some 7), .move (.const (.int .i64 0)), none, 0, false⟩])
 .ret)))⟩

def L152 : LFunc := ⟨10, [.tmp 2],
 (.seq (.region [⟨(some 2), .move (.const (.pointer none)), none, 0, false⟩])
 (.seq (.region [⟨(some 3), .move (.tmp 0), none, 0, false⟩,
 ⟨(some 4), .min [(.tmp 3), (.const (.int .i64 64))], none, 0, false⟩,
 ⟨(some 5), .max [(.const (.int .i64 0)), (.tmp 4)], none, 0, false⟩,
 ⟨(some 6), .mkSlice 1 24 22 [(.slice none 0 0)] (.tmp 5) (.tmp 5), none, 0, false⟩,
 ⟨(some 7), .build [(.slice none 0 0), (.int .i64 0), (.int .i64 0)] [(0, 1, (.tmp 6))], none, 0, false⟩,
 ⟨(some 8), .build [(.slice none 0 0), (.int .i64 0), (.int .i64 0), (.int .i64 0)] [(0, 3, (.tmp 7))], none, 0, false⟩,
 ⟨(some 9), .box 4 195 (.tmp 8), none, 0, false⟩,
 ⟨(some 2), .move (.tmp 9), none, 0, false⟩])
 .ret))⟩

def L153 : LFunc := ⟨10, [.tmp 4],
 (.seq (.region [⟨(some 4), .move (.const (.pointer none)), none, 0, false⟩])
 (.seq (.region [⟨(some 5), .move (.tmp 0), none, 0, false⟩,
 ⟨(some 6), .move (.tmp 1), none, 0, false⟩,
 ⟨(some 7), .move (.tmp 1), none, 0, false⟩,
 ⟨(some 8), .build [(.int .u64 0), (.int .u64 0), (.int .u64 0)] [(0, 1, (.tmp 5)), (1, 1, (.tmp 6)), (2, 1, (.tmp 7))], none, 0, false⟩,
 ⟨(some 9), .box 3 204 (.tmp 8), none, 0, false⟩,
 ⟨(some 4), .move (.tmp 9), none, 0, false⟩])
 .ret))⟩

def L154 : LFunc := ⟨43, [.tmp 6],
 (.seq (.region [⟨(some 4), .box 5 32 (.tmp 1), none, 0, false⟩,
 ⟨(some 6), .move (.const (.int .i64 0)), none, 0, false⟩])
 (.seq (.draw [⟨(some 10), .move (.tmp 0), none, 0, false⟩,
 ⟨(some 11), .nilCheck (.tmp 10), none, 0, false⟩,
 ⟨(some 12), .fieldAddr 0 (.tmp 11), none, 0, false⟩,
 ⟨(some 13), .load1 (.tmp 12), none, 0, false⟩,
 ⟨(some 14), .loadN 5 (.tmp 4), none, 0, false⟩,
 ⟨(some 15), .lookup (.agg 5 [(0, .n), (1, .n), (2, .n), (3, .n), (4, .n)]) (.int .i64 0) true (.tmp 13) (.tmp 14), none, 0, false⟩,
 ⟨(some 9), .move (.tmp 15), none, 0, false⟩,
 ⟨(some 16), .extract (.tmp 9) 0, none, 0, false⟩,
 ⟨(some 17), .extract (.tmp 9) 1, none, 0, false⟩,
 ⟨(some 7), .move (.tmp 16), none, 0, false⟩,
 ⟨(some 8), .move (.tmp 17), none, 0, false⟩])
 (.seq (.seq (.region [⟨(some 18), .loadN 5 (.tmp 4), none, 0, false⟩,
 ⟨(some 19), .call (.func 198) [(.tmp 18)], none, 0, false⟩,
 ⟨(some 20), .un .not (.tmp 19), none, 0, false⟩,
 ⟨(some 21), .move (.tmp 20), none, 0, false⟩,
 ⟨(some 22), .move (.tmp 2), (some (21, false)), 0, false⟩,
 ⟨(some 23), .bin .lss (.tmp 22) (.const (.int .i64 0)), (some (21, false)), 0, false⟩,
 ⟨(some 24), .pick (.tmp 21) (.const (.bool true)) (.tmp 23), none, 0, false⟩,
 ⟨(some 25), .move (.tmp 24), none, 0, false⟩,
 ⟨(some 26), .move (.tmp 8), (some (25, false)), 0, false⟩,
 ⟨(some 27), .un .not (.tmp 26), (some (25, false)), 0, false⟩,
 ⟨(some 28), .move (.tmp 27), (some (25, false)), 0, false⟩,
 ⟨(some 29), .move (.tmp 0), (some (28, true)), 0, false⟩,
 ⟨(some 30), .nilCheck (.tmp 29), (some (28, true)), 0, false⟩,
 ⟨(some 31), .fieldAddr 0 (.tmp 30), (some (28, true)), 0, false⟩,
 ⟨(some 32), .load1 (.tmp 31), (some (28, true)), 0, false⟩,
 ⟨(some 33), .lenMap (.tmp 32), (some (28, true)), 0, false⟩,
 ⟨(some 34), .bin .geq (.tmp 33) (.const (.int .i64 64)), (some (28, true)), 0, false⟩,
 ⟨(some 35), .pick (.tmp 28) (.tmp 34) (.const (.bool false)), (some (25, false)), 0, false⟩,
 ⟨(some 36), .pick (.tmp 25) (.const (.bool true)) (.tmp 35), none, 0, false⟩])
 (.cond (.tmp 36) (.seq (.region [⟨(some 6), .move (.const (.int .i64 61)), none, 0, false⟩])
 .ret)
 .skip))
 (.seq (.draw [⟨(some 37), .move (.tmp 0), none, 0, false⟩,
 ⟨(some 38), .nilCheck (.tmp 37), none, 0, false⟩,
 ⟨(some 39), .fieldAddr 0 (.tmp 38), none, 0, false⟩,
 ⟨(some 40), .load1 (.tmp 39), none, 0, false⟩,
 ⟨(some 41), .loadN 5 (.tmp 4), none, 0, false⟩,
 ⟨(some 42), .move (.tmp 2), none, 0, false⟩,
 ⟨none, .mapUpdate (.agg 5 [(0, .n), (1, .n), (2, .n), (3, .n), (4, .n)]) (.tmp 40) (.tmp 41) (.tmp 42), none, 0, true⟩])
 (.seq (.region [⟨(some 6), .move (.const (.int .i64 0)), none, 0, false⟩])
 .ret)))))⟩

def L155 : LFunc := ⟨70, [.tmp 6],
 (.seq (.region [⟨(some 6), .move (.const (.int .i64 0)), none, 0, false⟩])
 (.seq (.region [⟨(some 10), .move (.tmp 0), none, 0, false⟩,
 ⟨(some 11), .nilCheck (.tmp 10), none, 0, false⟩,
 ⟨(some 12), .fieldAddr 0 (.tmp 11), none, 0, false⟩,
 ⟨(some 13), .load1 (.tmp 12), none, 0, false⟩,
 ⟨(some 14), .move (.tmp 1), none, 0, false⟩,
 ⟨(some 15), .lookup (.prim .n) (.pointer none) true (.tmp 13) (.tmp 14), none, 0, false⟩,
 ⟨(some 9), .move (.tmp 15), none, 0, false⟩,
 ⟨(some 16), .extract (.tmp 9) 0, none, 0, false⟩,
 ⟨(some 17), .extract (.tmp 9) 1, none, 0, false⟩,
 ⟨(some 7), .move (.tmp 16), none, 0, false⟩,
 ⟨(some 8), .move (.tmp 17), none, 0, false⟩])
 (.seq (.block 0 (.seq (.region [⟨(some 27), .move (.tmp 2), none, 0, false⟩,
 ⟨(some 28), .bin .eql (.tmp 27) (.const (.int .u64 0)), none, 0, false⟩,
 ⟨(some 29), .move (.tmp 28), none, 0, false⟩,
 ⟨(some 30), .move (.tmp 2), (some (29, false)), 0, false⟩,
 ⟨(some 31), .bin .gtr (.tmp 30) (.const (.int .u64 281474976710656)), (some (29, false)), 0, false⟩,
 ⟨(some 32), .pick (.tmp 29) (.const (.bool true)) (.tmp 31), none, 0, false⟩,
 ⟨(some 33), .move (.tmp 32), none, 0, false⟩,
 ⟨(some 34), .move (.tmp 8), (some (33, false)), 0, false⟩,
 ⟨(some 35), .un .not (.tmp 34), (some (33, false)), 0, false⟩,
 ⟨(some 36), .move (.tmp 35), (some (33, false)), 0, false⟩,
 ⟨(some 37), .move (.tmp 0), (some (36, true)), 0, false⟩,
 ⟨(some 38), .nilCheck (.tmp 37), (some (36, true)), 0, false⟩,
 ⟨(some 39), .fieldAddr 0 (.tmp 38), (some (36, true)), 0, false⟩,
 ⟨(some 40), .load1 (.tmp 39), (some (36, true)), 0, false⟩,
 ⟨(some 41), .lenMap (.tmp 40), (some (36, true)), 0, false⟩,
 ⟨(some 42), .bin .geq (.tmp 41) (.const (.int .i64 8)), (some (36, true)), 0, false⟩,
 ⟨(some 43), .pick (.tmp 36) (.tmp 42) (.const (.bool false)), (some (33, false)), 0, false⟩,
 ⟨(some 44), .pick (.tmp 33) (.const (.bool true)) (.tmp 43), none, 0, false⟩,
 ⟨(some 26), .move (.tmp 44), none, 0, false⟩])
 (.cond (.tmp 26) (.seq (.region [⟨(some 6), .move (.const (.int .i64 201)), none, 0, false⟩])
 .ret)
 (.seq (.region [⟨(some 46), .move (.tmp 8), none, 0, false⟩,
 ⟨(some 47), .move (.tmp 46), none, 0, false⟩,
 ⟨(some 48), .move (.tmp 7), (some (47, true)), 0, false⟩,
 ⟨(some 49), .nilCheck (.tmp 48), (some (47, true)), 0, false⟩,
 ⟨(some 50), .fieldAddr 0 (.tmp 49), (some (47, true)), 0, false⟩,
 ⟨(some 51), .load1 (.tmp 50), (some (47, true)), 0, false⟩,
 ⟨(some 52), .move (.tmp 2), (some (47, true)), 0, false⟩,
 ⟨(some 53), .bin .neq (.tmp 51) (.tmp 52), (some (47, true)), 0, false⟩,
 ⟨(some 54), .pick (.tmp 47) (.tmp 53) (.const (.bool false)), none, 0, false⟩,
 ⟨(some 45), .move (.tmp 54), none, 0, false⟩])
 (.cond (.tmp 45) (.region [⟨(some 55), .move (.tmp 7), none, 0, false⟩,
 ⟨(some 56), .move (.tmp 7), none, 0, false⟩,
 ⟨(some 57), .move (.tmp 2), none, 0, false⟩,
 ⟨(some 58), .move (.tmp 7), none, 0, false⟩,
 ⟨(some 59), .nilCheck (.tmp 58), none, 0, false⟩,
 ⟨(some 60), .fieldAddr 1 (.tmp 59), none, 0, false⟩,
 ⟨(some 61), .load1 (.tmp 60), none, 0, false⟩,
 ⟨(some 62), .move (.tmp 2), none, 0, false⟩,
 ⟨(some 63), .min [(.tmp 61), (.tmp 62)], none, 0, false⟩,
 ⟨(some 64), .nilCheck (.tmp 55), none, 0, false⟩,
 ⟨(some 65), .fieldAddr 0 (.tmp 64), none, 0, false⟩,
 ⟨none, .store 1 (.tmp 65) (.tmp 57), none, 0, false⟩,
 ⟨(some 66), .nilCheck (.tmp 56), none, 0, false⟩,
 ⟨(some 67), .fieldAddr 1 (.tmp 66), none, 0, false⟩,
 ⟨none, .store 1 (.tmp 67) (.tmp 63), none, 0, false⟩])
 (.seq (.region [⟨(some 69), .move (.tmp 8), none, 0, false⟩,
 ⟨(some 68), .move (.tmp 69), none, 0, false⟩])
 (.cond (.tmp 68) .skip
 (.region [⟨(some 18), .move (.tmp 0), none, 0, false⟩,
 ⟨(some 19), .nilCheck (.tmp 18), none, 0, false⟩,
 ⟨(some 20), .fieldAddr 0 (.tmp 19), none, 0, false⟩,
 ⟨(some 21), .load1 (.tmp 20), none, 0, false⟩,
 ⟨(some 22), .move (.tmp 1), none, 0, false⟩,
 ⟨(some 23), .move (.tmp 2), none, 0, false⟩,
 ⟨(some 24), .build [(.int .u64 0), (.int .u64 0), (.bool false)] [(0, 1, (.tmp 23))], none, 0, false⟩,
 ⟨(some 25), .box 3 221 (.tmp 24), none, 0, false⟩,
 ⟨none, .mapUpdate (.prim .n) (.tmp 21) (.tmp 22) (.tmp 25), none, 0, false⟩]))))))))
 (.seq (.region [⟨(some 6), .move (.const (.int .i64 0)), none, 0, false⟩])
 .ret))))⟩

def L156 : LFunc := ⟨33, [.tmp 2],
 (.seq (.region [⟨(some 2), .move (.const (.int .u16 0)), none, 0, false⟩])
 (.seq (.region [⟨(some 3), .move (.const (.int .u64 0)), none, 0, false⟩])
 (.seq (.seq (.region [⟨(some 6), .move (.tmp 0), none, 0, false⟩,
 ⟨(some 7), .len false (.tmp 6), none, 0, false⟩,
 ⟨(some 8), .move (.const (.int .i64 0)), none, 0, false⟩])
 (.block 0 (.loop (.seq (.region [⟨(some 9), .bin .lss (.tmp 8) (.tmp 7), none, 0, false⟩])
 (.seq (.cond (.tmp 9) .skip
 (.exit 0))
 (.seq (.block 1 (.seq (.region [⟨(some 10), .move (.tmp 8), none, 0, false⟩,
 ⟨(some 11), .indexAddr 1 (.tmp 6) (.tmp 8), none, 0, false⟩,
 ⟨(some 12), .load1 (.tmp 11), none, 0, false⟩,
 ⟨(some 4), .move (.tmp 10), none, 0, false⟩,
 ⟨(some 5), .move (.tmp 12), none, 0, false⟩])
 (.region [⟨(some 13), .move (.tmp 3), none, 0, false⟩,
 ⟨(some 14), .move (.tmp 5), none, 0, false⟩,
 ⟨(some 15), .conv (.int .u64) (.tmp 14), none, 0, false⟩,
 ⟨(some 16), .move (.tmp 4), none, 0, false⟩,
 ⟨(some 17), .bin .rem (.tmp 16) (.const (.int .i64 2)), none, 0, false⟩,
 ⟨(some 18), .bin .mul (.tmp 17) (.const (.int .i64 8)), none, 0, false⟩,
 ⟨(some 19), .bin .sub (.const (.int .i64 8)) (.tmp 18), none, 0, false⟩,
 ⟨(some 20), .bin .shl (.tmp 15) (.tmp 19), none, 0, false⟩,
 ⟨(some 21), .bin .add (.tmp 13) (.tmp 20), none, 0, false⟩,
 ⟨(some 3), .move (.tmp 21), none, 0, false⟩])))
 (.region [⟨(some 22), .bin .add (.tmp 8) (.const (.int .i64 1)), none, 0, false⟩,
 ⟨(some 8), .move (.tmp 22), none, 0, false⟩])))))))
 (.seq (.block 2 (.loop (.seq (.seq (.region [⟨(some 23), .move (.tmp 3), none, 0, false⟩,
 ⟨(some 24), .bin .gtr (.tmp 23) (.const (.int .u64 65535)), none, 0, false⟩])
 (.cond (.tmp 24) .skip
 (.exit 2)))
 (.block 3 (.region [⟨(some 25), .move (.tmp 3), none, 0, false⟩,
 ⟨(some 26), .bin .shr (.tmp 25) (.const (.int .u64 16)), none, 0, false⟩,
 ⟨(some 27), .move (.tmp 3), none, 0, false⟩,
 ⟨(some 28), .bin .and (.tmp 27) (.const (.int .u64 65535)), none, 0, false⟩,
 ⟨(some 29), .bin .add (.tmp 26) (.tmp 28), none, 0, false⟩,
 ⟨(some 3), .move (.tmp 29), none, 0, false⟩])))))
 (.seq (.region [⟨(some 30), .move (.tmp 3), none, 0, false⟩,
 ⟨(some 31), .conv (.int .u16) (.tmp 30), none, 0, false⟩,
 ⟨(some 32), .un .xor (.tmp 31), none, 0, false⟩,
 ⟨(some 2), .move (.tmp 32), none, 0, false⟩])
 .ret)))))⟩

def L157 : LFunc := ⟨8, [.tmp 2],
 (.seq (.region [⟨(some 2), .move (.const (.int .u32 0)), none, 0, false⟩])
 (.seq (.region [⟨(some 3), .move (.tmp 0), none, 0, false⟩,
 ⟨(some 4), .min [(.tmp 3), (.const (.int .i64 32))], none, 0, false⟩,
 ⟨(some 5), .max [(.const (.int .i64 0)), (.tmp 4)], none, 0, false⟩,
 ⟨(some 6), .bin .sub (.const (.int .i64 32)) (.tmp 5), none, 0, false⟩,
 ⟨(some 7), .bin .shl (.const (.int .u32 4294967295)) (.tmp 6), none, 0, false⟩,
 ⟨(some 2), .move (.tmp 7), none, 0, false⟩])
 .ret))⟩

def L158 : LFunc := ⟨17, [.tmp 4],
 (.seq (.region [⟨(some 4), .move (.const (.int .i64 0)), none, 0, false⟩])
 (.seq (.draw [⟨(some 5), .move (.tmp 0), none, 0, false⟩,
 ⟨(some 6), .nilCheck (.tmp 5), none, 0, false⟩,
 ⟨(some 7), .fieldAddr 1 (.tmp 6), none, 0, false⟩,
 ⟨(some 8), .load1 (.tmp 7), none, 0, false⟩,
 ⟨(some 9), .move (.tmp 1), none, 0, false⟩,
 ⟨(some 10), .bin .add (.tmp 8) (.tmp 9), none, 0, false⟩,
 ⟨(some 11), .move (.tmp 0), none, 0, false⟩,
 ⟨(some 12), .nilCheck (.tmp 11), none, 0, false⟩,
 ⟨(some 13), .fieldAddr 0 (.tmp 12), none, 0, false⟩,
 ⟨(some 14), .load1 (.tmp 13), none, 0, false⟩,
 ⟨(some 15), .len false (.tmp 14), none, 0, false⟩,
 ⟨(some 16), .bin .rem (.tmp 10) (.tmp 15), none, 0, false⟩,
 ⟨(some 4), .move (.tmp 16), none, 0, false⟩])
 .ret))⟩

def L159 : LFunc := ⟨19, [.tmp 4],
 (.seq (.region [⟨(some 4), .move (.const (.int .i64 0)), none, 0, false⟩])
 (.seq (.seq (.region [⟨(some 6), .move (.tmp 0), none, 0, false⟩,
 ⟨(some 7), .len false (.tmp 6), none, 0, false⟩,
 ⟨(some 8), .move (.const (.int .i64 0)), none, 0, false⟩])
 (.block 0 (.loop (.seq (.region [⟨(some 9), .bin .lss (.tmp 8) (.tmp 7), none, 0, false⟩])
 (.seq (.cond (.tmp 9) .skip
 (.exit 0))
 (.seq (.block 1 (.seq (.region [⟨(some 10), .move (.tmp 8), none, 0, false⟩,
 ⟨(some 5), .move (.tmp 10), none, 0, false⟩])
 (.seq (.region [⟨(some 11), .move (.tmp 1), none, 0, false⟩,
 ⟨(some 12), .move (.tmp 0), none, 0, false⟩,
 ⟨(some 13), .move (.tmp 5), none, 0, false⟩,
 ⟨(some 14), .indexAddr 1 (.tmp 12) (.tmp 13), none, 0, false⟩,
 ⟨(some 15), .load1 (.tmp 14), none, 0, false⟩,
 ⟨(some 16), .bin .eql (.tmp 11) (.tmp 15), none, 0, false⟩])
 (.cond (.tmp 16) (.seq (.region [⟨(some 17), .move (.tmp 5), none, 0, false⟩,
 ⟨(some 4), .move (.tmp 17), none, 0, false⟩])
 .ret)
 .skip))))
 (.region [⟨(some 18), .bin .add (.tmp 8) (.const (.int .i64 1)), none, 0, false⟩,
 ⟨(some 8), .move (.tmp 18), none, 0, false⟩])))))))
 (.seq (.region [⟨(some 4), .move (.const (.int .i64 (-1))), none, 0, false⟩])
 .ret)))⟩

def L160 : LFunc := ⟨16, [.tmp 4],
 (.seq (.region [⟨(some 4), .move (.const (.int .u64 0)), none, 0, false⟩])
 (.seq (.region [⟨(some 8), .move (.tmp 0), none, 0, false⟩,
 ⟨(some 9), .move (.tmp 1), none, 0, false⟩,
 ⟨(some 10), .call (.func 199) [(.tmp 8), (.tmp 9)], none, 0, false⟩,
 ⟨(some 7), .move (.tmp 10), none, 0, false⟩,
 ⟨(some 11), .extract (.tmp 7) 0, none, 0, false⟩,
 ⟨(some 12), .extract (.tmp 7) 1, none, 0, false⟩,
 ⟨(some 5), .move (.tmp 11), none, 0, false⟩,
 ⟨(some 6), .move (.tmp 12), none, 0, false⟩])
 (.seq (.seq (.region [⟨(some 13), .move (.tmp 5), none, 0, false⟩,
 ⟨(some 14), .bin .neq (.tmp 13) (.const (.int .u64 0)), none, 0, false⟩])
 (.cond (.tmp 14) (.seq (.region [⟨(some 4), .move (.const (.int .u64 18446744073709551615)), none, 0, false⟩])
 .ret)
 .skip))
 (.seq (.region [⟨(some 15), .move (.tmp 6), none, 0, false⟩,
 ⟨(some 4), .move (.tmp 15), none, 0, false⟩])
 .ret))))⟩

def L161 : LFunc := ⟨28, [.tmp 2],
 (.seq (.region [⟨(some 1), .box 2 154 (.tmp 0), none, 0, false⟩,
 ⟨(some 2), .move (.const (.bool false)), none, 0, false⟩])
 (.seq (.seq (.region [⟨(some 3), .fieldAddr 0 (.tmp 1), none, 0, false⟩,
 ⟨(some 4), .load1 (.tmp 3), none, 0, false⟩,
 ⟨(some 5), .bin .lss (.tmp 4) (.const (.int .u64 1)), none, 0, false⟩,
 ⟨(some 6), .move (.tmp 5), none, 0, false⟩,
 ⟨(some 7), .fieldAddr 0 (.tmp 1), (some (6, false)), 0, false⟩,
 ⟨(some 8), .load1 (.tmp 7), (some (6, false)), 0, false⟩,
 ⟨(some 9), .bin .gtr (.tmp 8) (.const (.int .u64 281474976710656)), (some (6, false)), 0, false⟩,
 ⟨(some 10), .pick (.tmp 6) (.const (.bool true)) (.tmp 9), none, 0, false⟩,
 ⟨(some 11), .move (.tmp 10), none, 0, false⟩,
 ⟨(some 12), .fieldAddr 1 (.tmp 1), (some (11, false)), 0, false⟩,
 ⟨(some 13), .load1 (.tmp 12), (some (11, false)), 0, false⟩,
 ⟨(some 14), .len false (.tmp 13), (some (11, false)), 0, false⟩,
 ⟨(some 15), .bin .gtr (.tmp 14) (.const (.int .i64 8)), (some (11, false)), 0, false⟩,
 ⟨(some 16), .pick (.tmp 11) (.const (.bool true)) (.tmp 15), none, 0, false⟩,
 ⟨(some 17), .move (.tmp 16), none, 0, false⟩,
 ⟨(some 18), .fieldAddr 1 (.tmp 1), (some (17, false)), 0, false⟩,
 ⟨(some 19), .load1 (.tmp 18), (some (17, false)), 0, false⟩,
 ⟨(some 20), .call (.func 201) [(.tmp 19)], (some (17, false)), 0, false⟩,
 ⟨(some 21), .call (.func 200) [(.tmp 20)], (some (17, false)), 0, false⟩,
 ⟨(some 22), .bin .neq (.tmp 21) (.const (.int .i64 0)), (some (17, false)), 0, false⟩,
 ⟨(some 23), .pick (.tmp 17) (.const (.bool true)) (.tmp 22), none, 0, false⟩])
 (.cond (.tmp 23) (.seq (.region [⟨(some 2), .move (.const (.bool false)), none, 0, false⟩])
 .ret)
 .skip))
 (.seq (.region [⟨(some 24), .fieldAddr 1 (.tmp 1), none, 0, false⟩,
 ⟨(some 25), .load1 (.tmp 24), none, 0, false⟩,
 ⟨(some 26), .call (.func 202) [(.tmp 25), (.func 203)], none, 0, false⟩,
 ⟨(some 27), .un .not (.tmp 26), none, 0, false⟩,
 ⟨(some 2), .move (.tmp 27), none, 0, false⟩])
 .ret)))⟩

def L162 : LFunc := ⟨76, [.tmp 2],
 (.seq (.region [⟨(some 1), .box 6 159 (.tmp 0), none, 0, false⟩,
 ⟨(some 2), .move (.const (.bool false)), none, 0, false⟩])
 (.seq (.seq (.region [⟨(some 4), .fieldAddr 0 (.tmp 1), none, 0, false⟩,
 ⟨(some 5), .load1 (.tmp 4), none, 0, false⟩])
 (.block 0 (.seq (.region [⟨(some 7), .bin .eql (.tmp 5) (.const (.int .i64 1)), none, 0, false⟩,
 ⟨(some 6), .move (.tmp 7), none, 0, false⟩])
 (.cond (.tmp 6) (.seq (.region [⟨(some 8), .fieldAddr 2 (.tmp 1), none, 0, false⟩,
 ⟨(some 9), .load1 (.tmp 8), none, 0, false⟩,
 ⟨(some 10), .len false (.tmp 9), none, 0, false⟩,
 ⟨(some 11), .fieldAddr 3 (.tmp 1), none, 0, false⟩,
 ⟨(some 12), .load1 (.tmp 11), none, 0, false⟩,
 ⟨(some 13), .len false (.tmp 12), none, 0, false⟩,
 ⟨(some 14), .bin .add (.tmp 10) (.tmp 13), none, 0, false⟩,
 ⟨(some 15), .bin .gtr (.tmp 14) (.const (.int .i64 0)), none, 0, false⟩,
 ⟨(some 3), .move (.tmp 15), none, 0, false⟩])
 (.seq (.region [⟨(some 16), .move (.tmp 3), none, 0, false⟩,
 ⟨(some 17), .move (.tmp 16), none, 0, false⟩,
 ⟨(some 18), .fieldAddr 2 (.tmp 1), (some (17, true)), 0, false⟩,
 ⟨(some 19), .load1 (.tmp 18), (some (17, true)), 0, false⟩,
 ⟨(some 20), .call (.func 200) [(.tmp 19)], (some (17, true)), 0, false⟩,
 ⟨(some 21), .bin .eql (.tmp 20) (.const (.int .i64 0)), (some (17, true)), 0, false⟩,
 ⟨(some 22), .pick (.tmp 17) (.tmp 21) (.const (.bool false)), none, 0, false⟩,
 ⟨(some 23), .move (.tmp 22), none, 0, false⟩,
 ⟨(some 24), .fieldAddr 3 (.tmp 1), (some (23, true)), 0, false⟩,
 ⟨(some 25), .load1 (.tmp 24), (some (23, true)), 0, false⟩,
 ⟨(some 26), .fieldAddr 2 (.tmp 1), (some (23, true)), 0, false⟩,
 ⟨(some 27), .load1 (.tmp 26), (some (23, true)), 0, false⟩,
 ⟨(some 28), .call (.func 204) [(.tmp 25), (.tmp 27)], (some (23, true)), 0, false⟩,
 ⟨(some 29), .pick (.tmp 23) (.tmp 28) (.const (.bool false)), none, 0, false⟩,
 ⟨(some 30), .move (.tmp 29), none, 0, false⟩,
 ⟨(some 31), .loadN 6 (.tmp 1), (some (30, true)), 0, false⟩,
 ⟨(some 32), .fieldAddr 0 (.tmp 1), (some (30, true)), 0, false⟩,
 ⟨(some 33), .load1 (.tmp 32), (some (30, true)), 0, false⟩,
 ⟨(some 34), .fieldAddr 2 (.tmp 1), (some (30, true)), 0, false⟩,
 ⟨(some 35), .load1 (.tmp 34), (some (30, true)), 0, false⟩,
 ⟨(some 36), .fieldAddr 3 (.tmp 1), (some (30, true)), 0, false⟩,
 ⟨(some 37), .load1 (.tmp 36), (some (30, true)), 0, false⟩,
 ⟨(some 38), .build [(.int .i64 0), (.int .i64 0), (.slice none 0 0), (.slice none 0 0), (.int .u64 0), (.int .u64 0)] [(0, 1, (.tmp 33)), (2, 1, (.tmp 35)), (3, 1, (.tmp 37))], (some (30, true)), 0, false⟩,
 ⟨(some 39), .call (.func 205) [(.tmp 31), (.tmp 38)], (some (30, true)), 0, false⟩,
 ⟨(some 40), .pick (.tmp 30) (.tmp 39) (.const (.bool false)), none, 0, false⟩,
 ⟨(some 2), .move (.tmp 40), none, 0, false⟩])
 .ret))
 (.seq (.region [⟨(some 42), .bin .eql (.tmp 5) (.const (.int .i64 2)), none, 0, false⟩,
 ⟨(some 41), .move (.tmp 42), none, 0, false⟩])
 (.cond (.tmp 41) (.seq (.region [⟨(some 43), .fieldAddr 1 (.tmp 1), none, 0, false⟩,
 ⟨(some 44), .load1 (.tmp 43), none, 0, false⟩,
 ⟨(some 45), .call (.func 206) [(.tmp 44)], none, 0, false⟩,
 ⟨(some 46), .move (.tmp 45), none, 0, false⟩,
 ⟨(some 47), .fieldAddr 4 (.tmp 1), (some (46, true)), 0, false⟩,
 ⟨(some 48), .load1 (.tmp 47), (some (46, true)), 0, false⟩,
 ⟨(some 49), .call (.func 207) [(.tmp 48)], (some (46, true)), 0, false⟩,
 ⟨(some 50), .pick (.tmp 46) (.tmp 49) (.const (.bool false)), none, 0, false⟩,
 ⟨(some 51), .move (.tmp 50), none, 0, false⟩,
 ⟨(some 52), .loadN 6 (.tmp 1), (some (51, true)), 0, false⟩,
 ⟨(some 53), .fieldAddr 0 (.tmp 1), (some (51, true)), 0, false⟩,
 ⟨(some 54), .load1 (.tmp 53), (some (51, true)), 0, false⟩,
 ⟨(some 55), .fieldAddr 1 (.tmp 1), (some (51, true)), 0, false⟩,
 ⟨(some 56), .load1 (.tmp 55), (some (51, true)), 0, false⟩,
 ⟨(some 57), .fieldAddr 4 (.tmp 1), (some (51, true)), 0, false⟩,
 ⟨(some 58), .load1 (.tmp 57), (some (51, true)), 0, false⟩,
 ⟨(some 59), .build [(.int .i64 0), (.int .i64 0), (.slice none 0 0), (.slice none 0 0), (.int .u64 0), (.int .u64 0)] [(0, 1, (.tmp 54)), (1, 1, (.tmp 56)), (4, 1, (.tmp 58))], (some (51, true)), 0, false⟩,
 ⟨(some 60), .call (.func 205) [(.tmp 52), (.tmp 59)], (some (51, true)), 0, false⟩,
 ⟨(some 61), .pick (.tmp 51) (.tmp 60) (.const (.bool false)), none, 0, false⟩,
 ⟨(some 2), .move (.tmp 61), none, 0, false⟩])
 .ret)
 (.seq (.region [⟨(some 63), .bin .eql (.tmp 5) (.const (.int .i64 3)), none, 0, false⟩,
 ⟨(some 62), .move (.tmp 63), none, 0, false⟩])
 (.cond (.tmp 62) (.seq (.region [⟨(some 64), .fieldAddr 5 (.tmp 1), none, 0, false⟩,
 ⟨(some 65), .load1 (.tmp 64), none, 0, false⟩,
 ⟨(some 66), .call (.func 207) [(.tmp 65)], none, 0, false⟩,
 ⟨(some 67), .move (.tmp 66), none, 0, false⟩,
 ⟨(some 68), .loadN 6 (.tmp 1), (some (67, true)), 0, false⟩,
 ⟨(some 69), .fieldAddr 0 (.tmp 1), (some (67, true)), 0, false⟩,
 ⟨(some 70), .load1 (.tmp 69), (some (67, true)), 0, false⟩,
 ⟨(some 71), .fieldAddr 5 (.tmp 1), (some (67, true)), 0, false⟩,
 ⟨(some 72), .load1 (.tmp 71), (some (67, true)), 0, false⟩,
 ⟨(some 73), .build [(.int .i64 0), (.int .i64 0), (.slice none 0 0), (.slice none 0 0), (.int .u64 0), (.int .u64 0)] [(0, 1, (.tmp 70)), (5, 1, (.tmp 72))], (some (67, true)), 0, false⟩,
 ⟨(some 74), .call (.func 205) [(.tmp 68), (.tmp 73)], (some (67, true)), 0, false⟩,
 ⟨(some 75), .pick (.tmp 67) (.tmp 74) (.const (.bool false)), none, 0, false⟩,
 ⟨(some 2), .move (.tmp 75), none, 0, false⟩])
 .ret)
 .skip))))))))
 (.seq (.region [⟨(some 2), .move (.const (.bool false)), none, 0, false⟩])
 .ret)))⟩

def L163 : LFunc := ⟨57, [.tmp 4, .tmp 5],
 (.seq (.region [⟨(some 3), .box 6 159 (.tmp 1), none, 0, false⟩,
 ⟨(some 4), .move (.const (.slice none 0 0)), none, 0, false⟩,
 ⟨(some 5), .move (.const (.bool false)), none, 0, false⟩])
 (.seq (.seq (.region [⟨(some 12), .fieldAddr 3 (.tmp 3), none, 0, false⟩,
 ⟨(some 13), .load1 (.tmp 12), none, 0, false⟩,
 ⟨(some 14), .len false (.tmp 13), none, 0, false⟩,
 ⟨(some 15), .move (.const (.int .i64 0)), none, 0, false⟩])
 (.block 0 (.loop (.seq (.region [⟨(some 16), .bin .lss (.tmp 15) (.tmp 14), none, 0, false⟩])
 (.seq (.cond (.tmp 16) .skip
 (.exit 0))
 (.seq (.block 1 (.seq (.region [⟨(some 17), .indexAddr 1 (.tmp 13) (.tmp 15), none, 0, false⟩,
 ⟨(some 18), .load1 (.tmp 17), none, 0, false⟩,
 ⟨(some 7), .move (.tmp 18), none, 0, false⟩])
 (.seq (.region [⟨(some 19), .move (.tmp 0), none, 0, false⟩,
 ⟨(some 20), .move (.tmp 7), none, 0, false⟩,
 ⟨(some 21), .call (.func 208) [(.tmp 19), (.tmp 20)], none, 0, false⟩,
 ⟨(some 8), .move (.tmp 21), none, 0, false⟩])
 (.seq (.seq (.region [⟨(some 22), .move (.tmp 8), none, 0, false⟩,
 ⟨(some 23), .bin .lss (.tmp 22) (.const (.int .i64 0)), none, 0, false⟩])
 (.cond (.tmp 23) (.seq (.region [⟨(some 4), .move (.const (.slice none 0 0)), none, 0, false⟩,
 ⟨(some 5), .move (.const (.bool false)), none, 0, false⟩])
 .ret)
 .skip))
 (.region [⟨(some 24), .move (.tmp 0), none, 0, false⟩,
 ⟨(some 25), .move (.tmp 8), none, 0, false⟩,
 ⟨(some 26), .move (.tmp 8), none, 0, false⟩,
 ⟨(some 27), .bin .add (.tmp 26) (.const (.int .i64 1)), none, 0, false⟩,
 ⟨(some 28), .call (.func 209) [(.tmp 24), (.tmp 25), (.tmp 27)], none, 0, false⟩,
 ⟨(some 0), .move (.tmp 28), none, 0, false⟩])))))
 (.region [⟨(some 29), .bin .add (.tmp 15) (.const (.int .i64 1)), none, 0, false⟩,
 ⟨(some 15), .move (.tmp 29), none, 0, false⟩])))))))
 (.seq (.seq (.region [⟨(some 30), .fieldAddr 2 (.tmp 3), none, 0, false⟩,
 ⟨(some 31), .load1 (.tmp 30), none, 0, false⟩,
 ⟨(some 32), .len false (.tmp 31), none, 0, false⟩,
 ⟨(some 33), .move (.const (.int .i64 0)), none, 0, false⟩])
 (.block 2 (.loop (.seq (.region [⟨(some 34), .bin .lss (.tmp 33) (.tmp 32), none, 0, false⟩])
 (.seq (.cond (.tmp 34) .skip
 (.exit 2))
 (.seq (.block 3 (.seq (.region [⟨(some 35), .indexAddr 13 (.tmp 31) (.tmp 33), none, 0, false⟩,
 ⟨(some 36), .loadN 13 (.tmp 35), none, 0, false⟩,
 ⟨(some 10), .alloc [(.int .i64 0), (.int .u8 0), (.int .u8 0), (.int .u8 0), (.int .u8 0), (.int .i64 0), (.int .u64 0), (.int .u64 0), (.int .u64 0), (.int .u64 0), (.int .u64 0), (.int .u64 0), (.int .u64 0)] 34, none, 0, false⟩,
 ⟨none, .store 13 (.tmp 10) (.tmp 36), none, 0, false⟩])
 (.seq (.seq (.region [⟨(some 37), .move (.tmp 0), none, 0, false⟩,
 ⟨(some 38), .fieldAddr 0 (.tmp 10), none, 0, false⟩,
 ⟨(some 39), .load1 (.tmp 38), none, 0, false⟩,
 ⟨(some 40), .call (.func 208) [(.tmp 37), (.tmp 39)], none, 0, false⟩,
 ⟨(some 11), .move (.tmp 40), none, 0, false⟩])
 (.seq (.region [⟨(some 41), .move (.tmp 11), none, 0, false⟩,
 ⟨(some 42), .bin .geq (.tmp 41) (.const (.int .i64 0)), none, 0, false⟩])
 (.cond (.tmp 42) (.seq (.region [⟨(some 43), .move (.tmp 0), none, 0, false⟩,
 ⟨(some 44), .move (.tmp 11), none, 0, false⟩,
 ⟨(some 45), .loadN 13 (.tmp 10), none, 0, false⟩,
 ⟨(some 46), .indexAddr 14 (.tmp 43) (.tmp 44), none, 0, false⟩,
 ⟨(some 47), .fieldAddr 0 (.tmp 46), none, 0, false⟩,
 ⟨none, .store 13 (.tmp 47) (.tmp 45), none, 0, false⟩])
 (.exit 3))
 .skip)))
 (.region [⟨(some 48), .move (.tmp 0), none, 0, false⟩,
 ⟨(some 49), .loadN 13 (.tmp 10), none, 0, false⟩,
 ⟨(some 50), .build [(.int .i64 0), (.int .u8 0), (.int .u8 0), (.int .u8 0), (.int .u8 0), (.int .i64 0), (.int .u64 0), (.int .u64 0), (.int .u64 0), (.int .u64 0), (.int .u64 0), (.int .u64 0), (.int .u64 0), (.int .u64 0)] [(0, 13, (.tmp 49))], none, 0, false⟩,
 ⟨(some 51), .buildSlice 1 14 185 [(.int .i64 0), (.int .u8 0), (.int .u8 0), (.int .u8 0), (.int .u8 0), (.int .i64 0), (.int .u64 0), (.int .u64 0), (.int .u64 0), (.int .u64 0), (.int .u64 0), (.int .u64 0), (.int .u64 0), (.int .u64 0)] [(0, 14, (.tmp 50))], none, 0, false⟩,
 ⟨(some 52), .append 14 88 185 [(.int .i64 0), (.int .u8 0), (.int .u8 0), (.int .u8 0), (.int .u8 0), (.int .i64 0), (.int .u64 0), (.int .u64 0), (.int .u64 0), (.int .u64 0), (.int .u64 0), (.int .u64 0), (.int .u64 0), (.int .u64 0)] false (.tmp 48) (.tmp 51), none, 0, false⟩,
 ⟨(some 0), .move (.tmp 52), none, 0, false⟩]))))
 (.region [⟨(some 53), .bin .add (.tmp 33) (.const (.int .i64 1)), none, 0, false⟩,
 ⟨(some 33), .move (.tmp 53), none, 0, false⟩])))))))
 (.seq (.region [⟨(some 54), .move (.tmp 0), none, 0, false⟩,
 ⟨(some 55), .call (.func 210) [(.tmp 54), (.func 211)], none, 0, false⟩])
 (.seq (.region [⟨(some 56), .move (.tmp 0), none, 0, false⟩,
 ⟨(some 4), .move (.tmp 56), none, 0, false⟩,
 ⟨(some 5), .move (.const (.bool true)), none, 0, false⟩])
 .ret)))))⟩

def L164 : LFunc := ⟨41, [.tmp 4, .tmp 5],
 (.seq (.region [⟨(some 3), .box 6 159 (.tmp 1), none, 0, false⟩,
 ⟨(some 4), .move (.const (.slice none 0 0)), none, 0, false⟩,
 ⟨(some 5), .move (.const (.bool false)), none, 0, false⟩])
 (.seq (.region [⟨(some 7), .move (.tmp 0), none, 0, false⟩,
 ⟨(some 8), .fieldAddr 1 (.tmp 3), none, 0, false⟩,
 ⟨(some 9), .load1 (.tmp 8), none, 0, false⟩,
 ⟨(some 10), .call (.func 208) [(.tmp 7), (.tmp 9)], none, 0, false⟩,
 ⟨(some 6), .move (.tmp 10), none, 0, false⟩])
 (.seq (.seq (.draw [⟨(some 11), .move (.tmp 6), none, 0, false⟩,
 ⟨(some 12), .bin .lss (.tmp 11) (.const (.int .i64 0)), none, 0, false⟩,
 ⟨(some 13), .move (.tmp 12), none, 0, false⟩,
 ⟨(some 14), .fieldAddr 4 (.tmp 3), (some (13, false)), 0, false⟩,
 ⟨(some 15), .load1 (.tmp 14), (some (13, false)), 0, false⟩,
 ⟨(some 16), .move (.tmp 0), (some (13, false)), 0, false⟩,
 ⟨(some 17), .move (.tmp 6), (some (13, false)), 0, false⟩,
 ⟨(some 18), .indexAddr 14 (.tmp 16) (.tmp 17), (some (13, false)), 0, false⟩,
 ⟨(some 19), .fieldAddr 13 (.tmp 18), (some (13, false)), 0, false⟩,
 ⟨(some 20), .load1 (.tmp 19), (some (13, false)), 0, false⟩,
 ⟨(some 21), .bin .lss (.tmp 15) (.tmp 20), (some (13, false)), 0, false⟩,
 ⟨(some 22), .pick (.tmp 13) (.const (.bool true)) (.tmp 21), none, 0, false⟩,
 ⟨(some 23), .move (.tmp 22), none, 0, false⟩,
 ⟨(some 24), .fieldAddr 4 (.tmp 3), (some (23, false)), 0, false⟩,
 ⟨(some 25), .load1 (.tmp 24), (some (23, false)), 0, false⟩,
 ⟨(some 26), .move (.tmp 0), (some (23, false)), 0, false⟩,
 ⟨(some 27), .move (.tmp 6), (some (23, false)), 0, false⟩,
 ⟨(some 28), .indexAddr 14 (.tmp 26) (.tmp 27), (some (23, false)), 0, false⟩,
 ⟨(some 29), .fieldAddr 0 (.tmp 28), (some (23, false)), 0, false⟩,
 ⟨(some 30), .fieldAddr 10 (.tmp 29), (some (23, false)), 0, false⟩,
 ⟨(some 31), .load1 (.tmp 30), (some (23, false)), 0, false⟩,
 ⟨(some 32), .bin .gtr (.tmp 25) (.tmp 31), (some (23, false)), 0, false⟩,
 ⟨(some 33), .pick (.tmp 23) (.const (.bool true)) (.tmp 32), none, 0, false⟩])
 (.cond (.tmp 33) (.seq (.region [⟨(some 4), .move (.const (.slice none 0 0)), none, 0, false⟩,
 ⟨(some 5), .move (.const (.bool false)), none, 0, false⟩])
 .ret)
 .skip))
 (.seq (.region [⟨(some 34), .move (.tmp 0), none, 0, false⟩,
 ⟨(some 35), .move (.tmp 6), none, 0, false⟩,
 ⟨(some 36), .fieldAddr 4 (.tmp 3), none, 0, false⟩,
 ⟨(some 37), .load1 (.tmp 36), none, 0, false⟩,
 ⟨(some 38), .indexAddr 14 (.tmp 34) (.tmp 35), none, 0, false⟩,
 ⟨(some 39), .fieldAddr 13 (.tmp 38), none, 0, false⟩,
 ⟨none, .store 1 (.tmp 39) (.tmp 37), none, 0, false⟩])
 (.seq (.region [⟨(some 40), .move (.tmp 0), none, 0, false⟩,
 ⟨(some 4), .move (.tmp 40), none, 0, false⟩,
 ⟨(some 5), .move (.const (.bool true)), none, 0, false⟩])
 .ret)))))⟩

def L165 : LFunc := ⟨17, [.tmp 4],
 (.seq (.region [⟨(some 4), .move (.const (.bool false)), none, 0, false⟩])
 (.seq (.region [⟨(some 9), .move (.tmp 0), none, 0, false⟩,
 ⟨(some 10), .move (.tmp 1), none, 0, false⟩,
 ⟨(some 11), .call (.func 213) [(.tmp 10)], none, 0, false⟩,
 ⟨(some 12), .call (.func 169) [(.tmp 9), (.tmp 11)], none, 0, false⟩,
 ⟨(some 8), .move (.tmp 12), none, 0, false⟩,
 ⟨(some 13), .extract (.tmp 8) 0, none, 0, false⟩,
 ⟨(some 14), .extract (.tmp 8) 1, none, 0, false⟩,
 ⟨(some 15), .extract (.tmp 8) 2, none, 0, false⟩,
 ⟨(some 5), .move (.tmp 13), none, 0, false⟩,
 ⟨(some 6), .move (.tmp 14), none, 0, false⟩,
 ⟨(some 7), .move (.tmp 15), none, 0, false⟩])
 (.seq (.region [⟨(some 16), .move (.tmp 7), none, 0, false⟩,
 ⟨(some 4), .move (.tmp 16), none, 0, false⟩])
 .ret)))⟩

def L166 : LFunc := ⟨7, [.tmp 2],
 (.seq (.region [⟨(some 2), .move (.const (.int .u64 0)), none, 0, false⟩])
 (.seq (.region [⟨(some 3), .move (.tmp 0), none, 0, false⟩,
 ⟨(some 4), .nilCheck (.tmp 3), none, 0, false⟩,
 ⟨(some 5), .fieldAddr 2 (.tmp 4), none, 0, false⟩,
 ⟨(some 6), .load1 (.tmp 5), none, 0, false⟩,
 ⟨(some 2), .move (.tmp 6), none, 0, false⟩])
 .ret))⟩

def L167 : LFunc := ⟨33, [.tmp 2],
 (.seq (.region [⟨(some 1), .box 13 34 (.tmp 0), none, 0, false⟩,
 ⟨(some 2), .move (.const (.slice none 0 0)), none, 0, false⟩])
 (.seq (.seq (.region [⟨(some 3), .loadN 13 (.tmp 1), none, 0, false⟩,
 ⟨(some 4), .call (.func 188) [(.tmp 3)], none, 0, false⟩,
 ⟨(some 5), .un .not (.tmp 4), none, 0, false⟩])
 (.cond (.tmp 5) (.seq (.region [⟨(some 2), .move (.const (.slice none 0 0)), none, 0, false⟩])
 .ret)
 .skip))
 (.seq (.draw [⟨(some 9), .fieldAddr 1 (.tmp 1), none, 0, false⟩,
 ⟨(some 10), .fieldAddr 0 (.tmp 9), none, 0, false⟩,
 ⟨(some 11), .loadN 4 (.tmp 10), none, 0, false⟩,
 ⟨(some 12), .call (.func 43) [(.tmp 11)], none, 0, true⟩,
 ⟨(some 6), .fieldAddr 0 (.tmp 1), none, 0, false⟩,
 ⟨(some 7), .load1 (.tmp 6), none, 0, false⟩,
 ⟨(some 8), .conv (.int .u64) (.tmp 7), none, 0, false⟩,
 ⟨(some 13), .conv (.int .u64) (.tmp 12), none, 1, false⟩,
 ⟨(some 14), .fieldAddr 1 (.tmp 1), none, 0, false⟩,
 ⟨(some 15), .fieldAddr 4 (.tmp 14), none, 0, false⟩,
 ⟨(some 16), .load1 (.tmp 15), none, 0, false⟩,
 ⟨(some 17), .conv (.int .u64) (.tmp 16), none, 0, false⟩,
 ⟨(some 18), .fieldAddr 6 (.tmp 1), none, 0, false⟩,
 ⟨(some 19), .load1 (.tmp 18), none, 0, false⟩,
 ⟨(some 20), .fieldAddr 7 (.tmp 1), none, 0, false⟩,
 ⟨(some 21), .load1 (.tmp 20), none, 0, false⟩,
 ⟨(some 22), .fieldAddr 8 (.tmp 1), none, 0, false⟩,
 ⟨(some 23), .load1 (.tmp 22), none, 0, false⟩,
 ⟨(some 24), .fieldAddr 9 (.tmp 1), none, 0, false⟩,
 ⟨(some 25), .load1 (.tmp 24), none, 0, false⟩,
 ⟨(some 26), .fieldAddr 10 (.tmp 1), none, 0, false⟩,
 ⟨(some 27), .load1 (.tmp 26), none, 0, false⟩,
 ⟨(some 28), .fieldAddr 11 (.tmp 1), none, 0, false⟩,
 ⟨(some 29), .load1 (.tmp 28), none, 0, false⟩,
 ⟨(some 30), .fieldAddr 12 (.tmp 1), none, 0, false⟩,
 ⟨(some 31), .load1 (.tmp 30), none, 0, false⟩,
 ⟨(some 32), .buildSlice 10 1 26 [(.int .u64 0), (.int .u64 0), (.int .u64 0), (.int .u64 0), (.int .u64 0), (.int .u64 0), (.int .u64 0), (.int .u64 0), (.int .u64 0), (.int .u64 0)] [(0, 1, (.tmp 8)), (1, 1, (.tmp 13)), (2, 1, (.tmp 17)), (3, 1, (.tmp 19)), (4, 1, (.tmp 21)), (5, 1, (.tmp 23)), (6, 1, (.tmp 25)), (7, 1, (.tmp 27)), (8, 1, (.tmp 29)), (9, 1, (.tmp 31))], none, 1, false⟩,
 ⟨(some 2), .move (.tmp 32), none, 1, false⟩])
 .ret)))⟩

def L168 : LFunc := ⟨54, [.tmp 2, .tmp 3],
 (.seq (.region [⟨(some 1), .box 3 255 (.tmp 0), none, 0, false⟩,
 ⟨(some 2), .move (.const (.slice none 0 0)), none, 0, false⟩,
 ⟨(some 3), .move (.const (.int .i64 0)), none, 0, false⟩])
 (.seq (.region [⟨(some 8), .fieldAddr 2 (.tmp 1), none, 0, false⟩,
 ⟨(some 9), .load1 (.tmp 8), none, 0, false⟩,
 ⟨(some 10), .len false (.tmp 9), none, 0, false⟩,
 ⟨(some 11), .call (.func 213) [(.tmp 10)], none, 0, false⟩,
 ⟨(some 4), .move (.tmp 11), none, 0, false⟩])
 (.seq (.seq (.region [⟨(some 12), .move (.tmp 4), none, 0, false⟩,
 ⟨(some 13), .bin .eql (.tmp 12) (.const (.int .i64 0)), none, 0, false⟩,
 ⟨(some 14), .move (.tmp 13), none, 0, false⟩,
 ⟨(some 15), .fieldAddr 0 (.tmp 1), (some (14, false)), 0, false⟩,
 ⟨(some 16), .load1 (.tmp 15), (some (14, false)), 0, false⟩,
 ⟨(some 17), .bin .eql (.tmp 16) (.const (.int .u64 0)), (some (14, false)), 0, false⟩,
 ⟨(some 18), .pick (.tmp 14) (.const (.bool true)) (.tmp 17), none, 0, false⟩])
 (.cond (.tmp 18) (.seq (.region [⟨(some 2), .move (.const (.slice none 0 0)), none, 0, false⟩,
 ⟨(some 3), .move (.const (.int .i64 81)), none, 0, false⟩])
 .ret)
 .skip))
 (.seq (.draw [⟨(some 19), .fieldAddr 2 (.tmp 1), none, 0, false⟩,
 ⟨(some 20), .load1 (.tmp 19), none, 0, false⟩,
 ⟨(some 21), .len false (.tmp 20), none, 0, false⟩,
 ⟨(some 22), .conv (.int .u64) (.tmp 21), none, 0, false⟩,
 ⟨(some 23), .call (.func 215) [(.tmp 22), (.const (.int .i64 2))], none, 0, true⟩,
 ⟨(some 24), .fieldAddr 0 (.tmp 1), none, 0, false⟩,
 ⟨(some 25), .load1 (.tmp 24), none, 0, false⟩,
 ⟨(some 26), .call (.func 215) [(.tmp 25), (.const (.int .i64 8))], none, 1, true⟩,
 ⟨(some 27), .fieldAddr 1 (.tmp 1), none, 0, false⟩,
 ⟨(some 28), .load1 (.tmp 27), none, 0, false⟩,
 ⟨(some 29), .conv (.int .u64) (.tmp 28), none, 0, false⟩,
 ⟨(some 30), .call (.func 215) [(.tmp 29), (.const (.int .i64 4))], none, 2, true⟩,
 ⟨(some 31), .fieldAddr 2 (.tmp 1), none, 0, false⟩,
 ⟨(some 32), .load1 (.tmp 31), none, 0, false⟩,
 ⟨(some 33), .buildSlice 4 1 22 [(.slice none 0 0), (.slice none 0 0), (.slice none 0 0), (.slice none 0 0)] [(0, 1, (.tmp 23)), (1, 1, (.tmp 26)), (2, 1, (.tmp 30)), (3, 1, (.tmp 32))], none, 3, false⟩,
 ⟨(some 34), .call (.func 42) [(.tmp 33)], none, 3, true⟩,
 ⟨(some 35), .call (.func 214) [(.tmp 34)], none, 4, true⟩,
 ⟨(some 5), .move (.tmp 35), none, 5, false⟩])
 (.seq (.region [⟨(some 36), .move (.tmp 4), none, 0, false⟩,
 ⟨(some 37), .mkSlice 64 64 262 [(.int .u8 0), (.int .u8 0), (.int .u8 0), (.int .u8 0), (.int .u8 0), (.int .u8 0), (.int .u8 0), (.int .u8 0), (.int .u8 0), (.int .u8 0), (.int .u8 0), (.int .u8 0), (.int .u8 0), (.int .u8 0), (.int .u8 0), (.int .u8 0), (.int .u8 0), (.int .u8 0), (.int .u8 0), (.int .u8 0), (.int .u8 0), (.int .u8 0), (.int .u8 0), (.int .u8 0), (.int .u8 0), (.int .u8 0), (.int .u8 0), (.int .u8 0), (.int .u8 0), (.int .u8 0), (.int .u8 0), (.int .u8 0), (.int .u8 0), (.int .u8 0), (.int .u8 0), (.int .u8 0), (.int .u8 0), (.int .u8 0), (.int .u8 0), (.int .u8 0), (.int .u8 0), (.int .u8 0), (.int .u8 0), (.int .u8 0), (.int .u8 0), (.int .u8 0), (.int .u8 0), (.int .u8 0), (.int .u8 0), (.int .u8 0), (.int .u8 0), (.int .u8 0), (.int .u8 0), (.int .u8 0), (.int .u8 0), (.int .u8 0), (.int .u8 0), (.int .u8 0), (.int .u8 0), (.int .u8 0), (.int .u8 0), (.int .u8 0), (.int .u8 0), (.int .u8 0)] (.tmp 36) (.tmp 36), none, 0, false⟩,
 ⟨(some 6), .move (.tmp 37), none, 0, false⟩])
 (.seq (.seq (.region [⟨(some 38), .move (.tmp 6), none, 0, false⟩,
 ⟨(some 39), .len false (.tmp 38), none, 0, false⟩,
 ⟨(some 40), .move (.const (.int .i64 0)), none, 0, false⟩])
 (.block 0 (.loop (.seq (.region [⟨(some 41), .bin .lss (.tmp 40) (.tmp 39), none, 0, false⟩])
 (.seq (.cond (.tmp 41) .skip
 (.exit 0))
 (.seq (.block 1 (.seq (.region [⟨(some 42), .move (.tmp 40), none, 0, false⟩,
 ⟨(some 7), .move (.tmp 42), none, 0, false⟩])
 (.draw [⟨(some 43), .move (.tmp 6), none, 0, false⟩,
 ⟨(some 44), .move (.tmp 7), none, 0, false⟩,
 ⟨(some 45), .indexAddr 64 (.tmp 43) (.tmp 44), none, 0, false⟩,
 ⟨(some 46), .sliceArr 64 1 (.tmp 45) none none none, none, 0, false⟩,
 ⟨(some 47), .move (.tmp 5), none, 0, false⟩,
 ⟨(some 48), .move (.tmp 7), none, 0, false⟩,
 ⟨(some 49), .bin .mul (.tmp 48) (.const (.int .i64 64)), none, 0, false⟩,
 ⟨(some 50), .slice 1 (.tmp 47) (some (.tmp 49)) none none, none, 0, false⟩,
 ⟨(some 51), .copy 1 (.tmp 46) (.tmp 50), none, 0, true⟩])))
 (.region [⟨(some 52), .bin .add (.tmp 40) (.const (.int .i64 1)), none, 0, false⟩,
 ⟨(some 40), .move (.tmp 52), none, 0, false⟩])))))))
 (.seq (.region [⟨(some 53), .move (.tmp 6), none, 0, false⟩,
 ⟨(some 2), .move (.tmp 53), none, 0, false⟩,
 ⟨(some 3), .move (.const (.int .i64 0)), none, 0, false⟩])
 .ret)))))))⟩

def L169 : LFunc := ⟨45, [.tmp 4, .tmp 5, .tmp 6],
 (.seq (.region [⟨(some 4), .move (.const (.int .i64 0)), none, 0, false⟩,
 ⟨(some 5), .move (.const (.int .i64 0)), none, 0, false⟩,
 ⟨(some 6), .move (.const (.bool false)), none, 0, false⟩])
 (.seq (.seq (.region [⟨(some 8), .move (.tmp 1), none, 0, false⟩,
 ⟨(some 9), .bin .eql (.tmp 8) (.const (.int .i64 0)), none, 0, false⟩,
 ⟨(some 10), .move (.tmp 9), none, 0, false⟩,
 ⟨(some 11), .move (.tmp 0), (some (10, false)), 0, false⟩,
 ⟨(some 12), .nilCheck (.tmp 11), (some (10, false)), 0, false⟩,
 ⟨(some 13), .fieldAddr 2 (.tmp 12), (some (10, false)), 0, false⟩,
 ⟨(some 14), .load1 (.tmp 13), (some (10, false)), 0, false⟩,
 ⟨(some 15), .bin .eql (.tmp 14) (.const (.int .u64 0)), (some (10, false)), 0, false⟩,
 ⟨(some 16), .pick (.tmp 10) (.const (.bool true)) (.tmp 15), none, 0, false⟩])
 (.cond (.tmp 16) (.seq (.region [⟨(some 4), .move (.const (.int .i64 0)), none, 0, false⟩,
 ⟨(some 5), .move (.const (.int .i64 0)), none, 0, false⟩,
 ⟨(some 6), .move (.const (.bool false)), none, 0, false⟩])
 .ret)
 .skip))
 (.seq (.seq (.region [⟨(some 17), .move (.tmp 0), none, 0, false⟩,
 ⟨(some 18), .nilCheck (.tmp 17), none, 0, false⟩,
 ⟨(some 19), .fieldAddr 5 (.tmp 18), none, 0, false⟩,
 ⟨(some 20), .load1 (.tmp 19), none, 0, false⟩,
 ⟨(some 21), .move (.tmp 1), none, 0, false⟩,
 ⟨(some 22), .bin .add (.tmp 20) (.tmp 21), none, 0, false⟩,
 ⟨(some 23), .bin .leq (.tmp 22) (.const (.int .i64 16)), none, 0, false⟩])
 (.cond (.tmp 23) (.seq (.draw [⟨(some 24), .move (.tmp 0), none, 0, false⟩,
 ⟨(some 25), .nilCheck (.tmp 24), none, 0, false⟩,
 ⟨(some 26), .fieldAddr 4 (.tmp 25), none, 0, false⟩,
 ⟨(some 27), .load1 (.tmp 26), none, 0, false⟩,
 ⟨(some 28), .move (.tmp 0), none, 0, false⟩,
 ⟨(some 29), .nilCheck (.tmp 28), none, 0, false⟩,
 ⟨(some 30), .fieldAddr 5 (.tmp 29), none, 0, false⟩,
 ⟨(some 31), .load1 (.tmp 30), none, 0, false⟩,
 ⟨(some 4), .move (.tmp 27), none, 0, false⟩,
 ⟨(some 5), .move (.tmp 31), none, 0, false⟩,
 ⟨(some 6), .move (.const (.bool true)), none, 0, false⟩])
 .ret)
 .skip))
 (.seq (.region [⟨(some 32), .move (.tmp 0), none, 0, false⟩,
 ⟨(some 33), .move (.tmp 0), none, 0, false⟩,
 ⟨(some 34), .nilCheck (.tmp 33), none, 0, false⟩,
 ⟨(some 35), .fieldAddr 4 (.tmp 34), none, 0, false⟩,
 ⟨(some 36), .load1 (.tmp 35), none, 0, false⟩,
 ⟨(some 37), .call (.func 216) [(.tmp 32), (.tmp 36)], none, 0, false⟩,
 ⟨(some 7), .move (.tmp 37), none, 0, false⟩])
 (.seq (.draw [⟨(some 38), .move (.tmp 7), none, 0, false⟩,
 ⟨(some 39), .move (.tmp 7), none, 0, false⟩,
 ⟨(some 40), .move (.tmp 0), none, 0, false⟩,
 ⟨(some 41), .nilCheck (.tmp 40), none, 0, false⟩,
 ⟨(some 42), .fieldAddr 3 (.tmp 41), none, 0, false⟩,
 ⟨(some 43), .load1 (.tmp 42), none, 0, false⟩,
 ⟨(some 44), .bin .neq (.tmp 39) (.tmp 43), none, 0, false⟩,
 ⟨(some 4), .move (.tmp 38), none, 0, false⟩,
 ⟨(some 5), .move (.const (.int .i64 0)), none, 0, false⟩,
 ⟨(some 6), .move (.tmp 44), none, 0, false⟩])
 .ret)))))⟩

def L170 : LFunc := ⟨21, [.tmp 4, .tmp 5],
 (.seq (.region [⟨(some 4), .move (.const (.int .i64 0)), none, 0, false⟩,
 ⟨(some 5), .move (.const (.int .i64 0)), none, 0, false⟩])
 (.seq (.seq (.region [⟨(some 9), .move (.tmp 0), none, 0, false⟩,
 ⟨(some 10), .move (.tmp 1), none, 0, false⟩,
 ⟨(some 11), .buildSlice 1 1 3 [(.int .i64 0)] [(0, 1, (.tmp 10))], none, 0, false⟩,
 ⟨(some 12), .call (.func 217) [(.tmp 9), (.tmp 11)], none, 0, false⟩,
 ⟨(some 8), .move (.tmp 12), none, 0, false⟩,
 ⟨(some 13), .extract (.tmp 8) 0, none, 0, false⟩,
 ⟨(some 14), .extract (.tmp 8) 1, none, 0, false⟩,
 ⟨(some 6), .move (.tmp 13), none, 0, false⟩,
 ⟨(some 7), .move (.tmp 14), none, 0, false⟩])
 (.seq (.region [⟨(some 15), .move (.tmp 7), none, 0, false⟩,
 ⟨(some 16), .bin .neq (.tmp 15) (.const (.int .i64 0)), none, 0, false⟩])
 (.cond (.tmp 16) (.seq (.region [⟨(some 17), .move (.tmp 7), none, 0, false⟩,
 ⟨(some 4), .move (.const (.int .i64 0)), none, 0, false⟩,
 ⟨(some 5), .move (.tmp 17), none, 0, false⟩])
 .ret)
 .skip)))
 (.seq (.region [⟨(some 18), .move (.tmp 1), none, 0, false⟩,
 ⟨(some 19), .bin .mul (.tmp 18) (.const (.int .i64 16)), none, 0, false⟩,
 ⟨(some 20), .bin .add (.const (.int .i64 32)) (.tmp 19), none, 0, false⟩,
 ⟨(some 4), .move (.tmp 20), none, 0, false⟩,
 ⟨(some 5), .move (.const (.int .i64 0)), none, 0, false⟩])
 .ret)))⟩

def L171 : LFunc := ⟨29, [.tmp 6],
 (.seq (.region [⟨(some 5), .box 64 262 (.tmp 2), none, 0, false⟩,
 ⟨(some 6), .move (.const (.int .i64 0)), none, 0, false⟩])
 (.seq (.seq (.region [⟨(some 8), .move (.tmp 0), none, 0, false⟩,
 ⟨(some 9), .move (.tmp 1), none, 0, false⟩,
 ⟨(some 10), .call (.func 218) [(.tmp 8), (.tmp 9)], none, 0, false⟩,
 ⟨(some 11), .un .not (.tmp 10), none, 0, false⟩])
 (.cond (.tmp 11) (.seq (.region [⟨(some 6), .move (.const (.int .i64 71)), none, 0, false⟩])
 .ret)
 .skip))
 (.seq (.region [⟨(some 12), .move (.tmp 0), none, 0, false⟩,
 ⟨(some 13), .call (.func 219) [(.tmp 12)], none, 0, false⟩,
 ⟨(some 7), .move (.tmp 13), none, 0, false⟩])
 (.seq (.seq (.region [⟨(some 14), .move (.tmp 7), none, 0, false⟩,
 ⟨(some 15), .bin .eql (.tmp 14) (.const (.int .i64 0)), none, 0, false⟩])
 (.cond (.tmp 15) (.draw [⟨(some 17), .move (.tmp 0), none, 0, false⟩,
 ⟨(some 18), .nilCheck (.tmp 17), none, 0, false⟩,
 ⟨(some 19), .fieldAddr 1 (.tmp 18), none, 0, false⟩,
 ⟨(some 20), .load1 (.tmp 19), none, 0, false⟩,
 ⟨(some 21), .move (.tmp 1), none, 0, false⟩,
 ⟨(some 22), .loadN 64 (.tmp 5), none, 0, false⟩,
 ⟨(some 23), .build [(.int .i64 0), (.int .u8 0), (.int .u8 0), (.int .u8 0), (.int .u8 0), (.int .u8 0), (.int .u8 0), (.int .u8 0), (.int .u8 0), (.int .u8 0), (.int .u8 0), (.int .u8 0), (.int .u8 0), (.int .u8 0), (.int .u8 0), (.int .u8 0), (.int .u8 0), (.int .u8 0), (.int .u8 0), (.int .u8 0), (.int .u8 0), (.int .u8 0), (.int .u8 0), (.int .u8 0), (.int .u8 0), (.int .u8 0), (.int .u8 0), (.int .u8 0), (.int .u8 0), (.int .u8 0), (.int .u8 0), (.int .u8 0), (.int .u8 0), (.int .u8 0), (.int .u8 0), (.int .u8 0), (.int .u8 0), (.int .u8 0), (.int .u8 0), (.int .u8 0), (.int .u8 0), (.int .u8 0), (.int .u8 0), (.int .u8 0), (.int .u8 0), (.int .u8 0), (.int .u8 0), (.int .u8 0), (.int .u8 0), (.int .u8 0), (.int .u8 0), (.int .u8 0), (.int .u8 0), (.int .u8 0), (.int .u8 0), (.int .u8 0), (.int .u8 0), (.int .u8 0), (.int .u8 0), (.int .u8 0), (.int .u8 0), (.int .u8 0), (.int .u8 0), (.int .u8 0), (.int .u8 0)] [(0, 1, (.tmp 21)), (1, 64, (.tmp 22))], none, 0, false⟩,
 ⟨(some 24), .buildSlice 1 65 273 [(.int .i64 0), (.int .u8 0), (.int .u8 0), (.int .u8 0), (.int .u8 0), (.int .u8 0), (.int .u8 0), (.int .u8 0), (.int .u8 0), (.int .u8 0), (.int .u8 0), (.int .u8 0), (.int .u8 0), (.int .u8 0), (.int .u8 0), (.int .u8 0), (.int .u8 0), (.int .u8 0), (.int .u8 0), (.int .u8 0), (.int .u8 0), (.int .u8 0), (.int .u8 0), (.int .u8 0), (.int .u8 0), (.int .u8 0), (.int .u8 0), (.int .u8 0), (.int .u8 0), (.int .u8 0), (.int .u8 0), (.int .u8 0), (.int .u8 0), (.int .u8 0), (.int .u8 0), (.int .u8 0), (.int .u8 0), (.int .u8 0), (.int .u8 0), (.int .u8 0), (.int .u8 0), (.int .u8 0), (.int .u8 0), (.int .u8 0), (.int .u8 0), (.int .u8 0), (.int .u8 0), (.int .u8 0), (.int .u8 0), (.int .u8 0), (.int .u8 0), (.int .u8 0), (.int .u8 0), (.int .u8 0), (.int .u8 0), (.int .u8 0), (.int .u8 0), (.int .u8 0), (.int .u8 0), (.int .u8 0), (.int .u8 0), (.int .u8 0), (.int .u8 0), (.int .u8 0), (.int .u8 0)] [(0, 65, (.tmp 23))], none, 0, false⟩,
 ⟨(some 25), .append 65 72 273 [(.int .i64 0), (.int .u8 0), (.int .u8 0), (.int .u8 0), (.int .u8 0), (.int .u8 0), (.int .u8 0), (.int .u8 0), (.int .u8 0), (.int .u8 0), (.int .u8 0), (.int .u8 0), (.int .u8 0), (.int .u8 0), (.int .u8 0), (.int .u8 0), (.int .u8 0), (.int .u8 0), (.int .u8 0), (.int .u8 0), (.int .u8 0), (.int .u8 0), (.int .u8 0), (.int .u8 0), (.int .u8 0), (.int .u8 0), (.int .u8 0), (.int .u8 0), (.int .u8 0), (.int .u8 0), (.int .u8 0), (.int .u8 0), (.int .u8 0), (.int .u8 0), (.int .u8 0), (.int .u8 0), (.int .u8 0), (.int .u8 0), (.int .u8 0), (.int .u8 0), (.int .u8 0), (.int .u8 0), (.int .u8 0), (.int .u8 0), (.int .u8 0), (.int .u8 0), (.int .u8 0), (.int .u8 0), (.int .u8 0), (.int .u8 0), (.int .u8 0), (.int .u8 0), (.int .u8 0), (.int .u8 0), (.int .u8 0), (.int .u8 0), (.int .u8 0), (.int .u8 0), (.int .u8 0), (.int .u8 0), (.int .u8 0), (.int .u8 0), (.int .u8 0), (.int .u8 0), (.int .u8 0)] false (.tmp 20) (.tmp 24), none, 0, true⟩,
 ⟨(some 16), .move (.tmp 0), none, 0, false⟩,
 ⟨(some 26), .nilCheck (.tmp 16), none, 1, false⟩,
 ⟨(some 27), .fieldAddr 1 (.tmp 26), none, 1, false⟩,
 ⟨none, .store 1 (.tmp 27) (.tmp 25), none, 1, true⟩])
 .skip))
 (.seq (.region [⟨(some 28), .move (.tmp 7), none, 0, false⟩,
 ⟨(some 6), .move (.tmp 28), none, 0, false⟩])
 .ret)))))⟩

def L172 : LFunc := ⟨11, [.tmp 2],
 (.seq (.region [⟨(some 2), .move (.const (.int .i64 0)), none, 0, false⟩])
 (.seq (.region [⟨(some 4), .move (.tmp 0), none, 0, false⟩,
 ⟨(some 5), .call (.func 219) [(.tmp 4)], none, 0, false⟩,
 ⟨(some 3), .move (.tmp 5), none, 0, false⟩])
 (.seq (.seq (.region [⟨(some 6), .move (.tmp 3), none, 0, false⟩,
 ⟨(some 7), .bin .eql (.tmp 6) (.const (.int .i64 0)), none, 0, false⟩])
 (.cond (.tmp 7) (.region [⟨(some 8), .move (.tmp 0), none, 0, false⟩,
 ⟨(some 9), .call (.func 139) [(.tmp 8), (.func 220)], none, 0, false⟩])
 .skip))
 (.seq (.region [⟨(some 10), .move (.tmp 3), none, 0, false⟩,
 ⟨(some 2), .move (.tmp 10), none, 0, false⟩])
 .ret))))⟩

def L173 : LFunc := ⟨26, [.tmp 2],
 (.seq (.region [⟨(some 2), .move (.const (.pointer none)), none, 0, false⟩])
 (.seq (.seq (.region [⟨(some 4), .move (.tmp 0), none, 0, false⟩,
 ⟨(some 5), .nilCheck (.tmp 4), none, 0, false⟩,
 ⟨(some 6), .fieldAddr 1 (.tmp 5), none, 0, false⟩,
 ⟨(some 7), .load1 (.tmp 6), none, 0, false⟩,
 ⟨(some 8), .len false (.tmp 7), none, 0, false⟩,
 ⟨(some 9), .bin .eql (.tmp 8) (.const (.int .i64 0)), none, 0, false⟩])
 (.cond (.tmp 9) (.seq (.region [⟨(some 2), .move (.const (.pointer none)), none, 0, false⟩])
 .ret)
 .skip))
 (.seq (.seq (.draw [⟨(some 10), .move (.tmp 0), none, 0, false⟩,
 ⟨(some 11), .nilCheck (.tmp 10), none, 0, false⟩,
 ⟨(some 12), .fieldAddr 0 (.tmp 11), none, 0, false⟩,
 ⟨(some 13), .load1 (.tmp 12), none, 0, false⟩,
 ⟨(some 14), .move (.tmp 0), none, 0, false⟩,
 ⟨(some 15), .nilCheck (.tmp 14), none, 0, false⟩,
 ⟨(some 16), .fieldAddr 1 (.tmp 15), none, 0, false⟩,
 ⟨(some 17), .load1 (.tmp 16), none, 0, false⟩,
 ⟨(some 18), .indexAddr 1 (.tmp 17) (.const (.int .i64 0)), none, 0, false⟩,
 ⟨(some 19), .load1 (.tmp 18), none, 0, false⟩,
 ⟨(some 20), .lookup (.prim .n) (.pointer none) false (.tmp 13) (.tmp 19), none, 0, false⟩,
 ⟨(some 3), .move (.tmp 20), none, 0, false⟩])
 (.seq (.region [⟨(some 21), .move (.tmp 3), none, 0, false⟩,
 ⟨(some 22), .nilCheck (.tmp 21), none, 0, false⟩,
 ⟨(some 23), .fieldAddr 2 (.tmp 22), none, 0, false⟩,
 ⟨(some 24), .load1 (.tmp 23), none, 0, false⟩])
 (.cond (.tmp 24) (.seq (.region [⟨(some 25), .move (.tmp 3), none, 0, false⟩,
 ⟨(some 2), .move (.tmp 25), none, 0, false⟩])
 .ret)
 .skip)))
 (.seq (.region [⟨(some 2), .move (.const (.pointer none)), none, 0, false⟩])
 .ret))))⟩

def L174 : LFunc := ⟨33, [.tmp 6],
 (.seq (.region [⟨(some 6), .move (.const (.slice none 0 0)), none, 0, false⟩])
 (.seq (.region [⟨(some 8), .move (.tmp 0), none, 0, false⟩,
 ⟨(some 9), .move (.tmp 1), none, 0, false⟩,
 ⟨(some 10), .move (.tmp 2), none, 0, false⟩,
 ⟨(some 11), .move (.tmp 0), none, 0, false⟩,
 ⟨(some 12), .len false (.tmp 11), none, 0, false⟩,
 ⟨(some 13), .slice 1 (.tmp 8) (some (.tmp 9)) (some (.tmp 10)) (some (.tmp 12)), none, 0, false⟩])
 (.seq (.seq (.region [⟨(some 14), .move (.tmp 1), none, 0, false⟩,
 ⟨(some 15), .move (.tmp 2), none, 0, false⟩,
 ⟨(some 16), .bin .eql (.tmp 14) (.tmp 15), none, 0, false⟩])
 (.cond (.tmp 16) (.seq (.region [⟨(some 17), .move (.tmp 0), none, 0, false⟩,
 ⟨(some 6), .move (.tmp 17), none, 0, false⟩])
 .ret)
 .skip))
 (.seq (.region [⟨(some 18), .move (.tmp 0), none, 0, false⟩,
 ⟨(some 19), .len false (.tmp 18), none, 0, false⟩,
 ⟨(some 7), .move (.tmp 19), none, 0, false⟩])
 (.seq (.draw [⟨(some 20), .move (.tmp 0), none, 0, false⟩,
 ⟨(some 21), .move (.tmp 1), none, 0, false⟩,
 ⟨(some 22), .slice 1 (.tmp 20) none (some (.tmp 21)) none, none, 0, false⟩,
 ⟨(some 23), .move (.tmp 0), none, 0, false⟩,
 ⟨(some 24), .move (.tmp 2), none, 0, false⟩,
 ⟨(some 25), .slice 1 (.tmp 23) (some (.tmp 24)) none none, none, 0, false⟩,
 ⟨(some 26), .append 1 8 3 [(.int .i64 0)] false (.tmp 22) (.tmp 25), none, 0, true⟩,
 ⟨(some 0), .move (.tmp 26), none, 1, false⟩])
 (.seq (.region [⟨(some 27), .move (.tmp 0), none, 0, false⟩,
 ⟨(some 28), .move (.tmp 0), none, 0, false⟩,
 ⟨(some 29), .len false (.tmp 28), none, 0, false⟩,
 ⟨(some 30), .move (.tmp 7), none, 0, false⟩,
 ⟨(some 31), .slice 1 (.tmp 27) (some (.tmp 29)) (some (.tmp 30)) none, none, 0, false⟩,
 ⟨none, .clearSlice [(.int .i64 0)] (.tmp 31), none, 0, false⟩])
 (.seq (.region [⟨(some 32), .move (.tmp 0), none, 0, false⟩,
 ⟨(some 6), .move (.tmp 32), none, 0, false⟩])
 .ret)))))))⟩

def L175 : LFunc := ⟨10, [.tmp 4],
 (.seq (.region [⟨(some 4), .move (.const (.int .u64 0)), none, 0, false⟩])
 (.seq (.region [⟨(some 5), .move (.tmp 0), none, 0, false⟩,
 ⟨(some 6), .move (.tmp 0), none, 0, false⟩,
 ⟨(some 7), .move (.tmp 1), none, 0, false⟩,
 ⟨(some 8), .min [(.tmp 6), (.tmp 7)], none, 0, false⟩,
 ⟨(some 9), .bin .sub (.tmp 5) (.tmp 8), none, 0, false⟩,
 ⟨(some 4), .move (.tmp 9), none, 0, false⟩])
 .ret))⟩

def L176 : LFunc := ⟨39, [.tmp 4],
 (.seq (.region [⟨(some 4), .move (.const (.int .u64 0)), none, 0, false⟩])
 (.seq (.block 0 (.seq (.region [⟨(some 6), .move (.tmp 0), none, 0, false⟩,
 ⟨(some 7), .move (.tmp 1), none, 0, false⟩,
 ⟨(some 8), .call (.func 128) [(.tmp 6), (.tmp 7)], none, 0, false⟩,
 ⟨(some 5), .move (.tmp 8), none, 0, false⟩])
 (.cond (.tmp 5) (.seq (.region [⟨(some 9), .move (.tmp 0), none, 0, false⟩,
 ⟨(some 10), .nilCheck (.tmp 9), none, 0, false⟩,
 ⟨(some 11), .fieldAddr 2 (.tmp 10), none, 0, false⟩,
 ⟨(some 12), .load1 (.tmp 11), none, 0, false⟩,
 ⟨(some 4), .move (.tmp 12), none, 0, false⟩])
 .ret)
 (.seq (.region [⟨(some 14), .move (.tmp 0), none, 0, false⟩,
 ⟨(some 15), .move (.tmp 1), none, 0, false⟩,
 ⟨(some 16), .call (.func 129) [(.tmp 14), (.tmp 15)], none, 0, false⟩,
 ⟨(some 17), .un .not (.tmp 16), none, 0, false⟩,
 ⟨(some 13), .move (.tmp 17), none, 0, false⟩])
 (.cond (.tmp 13) (.seq (.region [⟨(some 4), .move (.const (.int .u64 0)), none, 0, false⟩])
 .ret)
 .skip)))))
 (.seq (.draw [⟨(some 18), .move (.tmp 0), none, 0, false⟩,
 ⟨(some 19), .nilCheck (.tmp 18), none, 0, false⟩,
 ⟨(some 20), .fieldAddr 3 (.tmp 19), none, 0, false⟩,
 ⟨(some 21), .load1 (.tmp 20), none, 0, false⟩,
 ⟨(some 22), .move (.tmp 0), none, 0, false⟩,
 ⟨(some 23), .nilCheck (.tmp 22), none, 0, false⟩,
 ⟨(some 24), .fieldAddr 1 (.tmp 23), none, 0, false⟩,
 ⟨(some 25), .load1 (.tmp 24), none, 0, false⟩,
 ⟨(some 26), .bin .add (.tmp 21) (.tmp 25), none, 0, false⟩,
 ⟨(some 27), .move (.tmp 0), none, 0, false⟩,
 ⟨(some 28), .nilCheck (.tmp 27), none, 0, false⟩,
 ⟨(some 29), .fieldAddr 0 (.tmp 28), none, 0, false⟩,
 ⟨(some 30), .load1 (.tmp 29), none, 0, false⟩,
 ⟨(some 31), .min [(.tmp 26), (.tmp 30)], none, 0, false⟩,
 ⟨(some 32), .move (.tmp 0), none, 0, false⟩,
 ⟨(some 33), .nilCheck (.tmp 32), none, 0, false⟩,
 ⟨(some 34), .fieldAddr 3 (.tmp 33), none, 0, false⟩,
 ⟨(some 35), .load1 (.tmp 34), none, 0, false⟩,
 ⟨(some 36), .move (.tmp 1), none, 0, false⟩,
 ⟨(some 37), .bin .add (.tmp 35) (.tmp 36), none, 0, false⟩,
 ⟨(some 38), .max [(.tmp 31), (.tmp 37)], none, 0, false⟩,
 ⟨(some 4), .move (.tmp 38), none, 0, false⟩])
 .ret)))⟩

def L177 : LFunc := ⟨23, [.tmp 4],
 (.seq (.region [⟨(some 4), .move (.const (.int .i64 0)), none, 0, false⟩])
 (.seq (.seq (.region [⟨(some 5), .move (.tmp 1), none, 0, false⟩,
 ⟨(some 6), .move (.tmp 0), none, 0, false⟩,
 ⟨(some 7), .nilCheck (.tmp 6), none, 0, false⟩,
 ⟨(some 8), .fieldAddr 2 (.tmp 7), none, 0, false⟩,
 ⟨(some 9), .load1 (.tmp 8), none, 0, false⟩,
 ⟨(some 10), .bin .lss (.tmp 5) (.tmp 9), none, 0, false⟩,
 ⟨(some 11), .move (.tmp 10), none, 0, false⟩,
 ⟨(some 12), .move (.tmp 1), (some (11, false)), 0, false⟩,
 ⟨(some 13), .move (.tmp 0), (some (11, false)), 0, false⟩,
 ⟨(some 14), .nilCheck (.tmp 13), (some (11, false)), 0, false⟩,
 ⟨(some 15), .fieldAddr 0 (.tmp 14), (some (11, false)), 0, false⟩,
 ⟨(some 16), .load1 (.tmp 15), (some (11, false)), 0, false⟩,
 ⟨(some 17), .bin .gtr (.tmp 12) (.tmp 16), (some (11, false)), 0, false⟩,
 ⟨(some 18), .pick (.tmp 11) (.const (.bool true)) (.tmp 17), none, 0, false⟩])
 (.cond (.tmp 18) (.seq (.region [⟨(some 4), .move (.const (.int .i64 181)), none, 0, false⟩])
 .ret)
 .skip))
 (.seq (.region [⟨(some 19), .move (.tmp 0), none, 0, false⟩,
 ⟨(some 20), .move (.tmp 1), none, 0, false⟩,
 ⟨(some 21), .nilCheck (.tmp 19), none, 0, false⟩,
 ⟨(some 22), .fieldAddr 2 (.tmp 21), none, 0, false⟩,
 ⟨none, .store 1 (.tmp 22) (.tmp 20), none, 0, false⟩])
 (.seq (.region [⟨(some 4), .move (.const (.int .i64 0)), none, 0, false⟩])
 .ret))))⟩

def L178 : LFunc := ⟨19, [.tmp 4],
 (.seq (.region [⟨(some 4), .move (.const (.bool false)), none, 0, false⟩])
 (.seq (.region [⟨(some 6), .move (.tmp 0), none, 0, false⟩,
 ⟨(some 7), .move (.tmp 1), none, 0, false⟩,
 ⟨(some 8), .call (.func 128) [(.tmp 6), (.tmp 7)], none, 0, false⟩,
 ⟨(some 5), .move (.tmp 8), none, 0, false⟩])
 (.seq (.seq (.region [⟨(some 9), .move (.tmp 5), none, 0, false⟩])
 (.cond (.tmp 9) (.region [⟨(some 10), .move (.tmp 0), none, 0, false⟩,
 ⟨(some 11), .nilCheck (.tmp 10), none, 0, false⟩,
 ⟨(some 12), .fieldAddr 3 (.tmp 11), none, 0, false⟩,
 ⟨(some 13), .load1 (.tmp 12), none, 0, false⟩,
 ⟨(some 14), .move (.tmp 1), none, 0, false⟩,
 ⟨(some 15), .bin .add (.tmp 13) (.tmp 14), none, 0, false⟩,
 ⟨(some 16), .nilCheck (.tmp 10), none, 0, false⟩,
 ⟨(some 17), .fieldAddr 3 (.tmp 16), none, 0, false⟩,
 ⟨none, .store 1 (.tmp 17) (.tmp 15), none, 0, false⟩])
 .skip))
 (.seq (.region [⟨(some 18), .move (.tmp 5), none, 0, false⟩,
 ⟨(some 4), .move (.tmp 18), none, 0, false⟩])
 .ret))))⟩

def L179 : LFunc := ⟨37, [.tmp 2, .tmp 3],
 (.seq (.region [⟨(some 2), .move (.const (.slice none 0 0)), none, 0, false⟩,
 ⟨(some 3), .move (.const (.bool false)), none, 0, false⟩])
 (.seq (.region [⟨(some 8), .move (.tmp 0), none, 0, false⟩,
 ⟨(some 9), .call (.func 126) [(.tmp 8)], none, 0, false⟩,
 ⟨(some 7), .move (.tmp 9), none, 0, false⟩,
 ⟨(some 10), .extract (.tmp 7) 0, none, 0, false⟩,
 ⟨(some 11), .extract (.tmp 7) 1, none, 0, false⟩,
 ⟨(some 4), .move (.tmp 10), none, 0, false⟩,
 ⟨(some 5), .move (.tmp 11), none, 0, false⟩])
 (.seq (.seq (.region [⟨(some 12), .move (.tmp 5), none, 0, false⟩])
 (.cond (.tmp 12) (.seq (.region [⟨(some 6), .move (.const (.slice none 0 0)), none, 0, false⟩])
 (.seq (.draw [⟨(some 13), .move (.tmp 0), none, 0, false⟩,
 ⟨(some 14), .nilCheck (.tmp 13), none, 0, false⟩,
 ⟨(some 15), .fieldAddr 0 (.tmp 14), none, 0, false⟩,
 ⟨(some 16), .load1 (.tmp 15), none, 0, false⟩,
 ⟨(some 17), .move (.tmp 0), none, 0, false⟩,
 ⟨(some 18), .nilCheck (.tmp 17), none, 0, false⟩,
 ⟨(some 19), .fieldAddr 1 (.tmp 18), none, 0, false⟩,
 ⟨(some 20), .load1 (.tmp 19), none, 0, false⟩,
 ⟨(some 21), .move (.tmp 6), none, 0, false⟩,
 ⟨(some 22), .indexAddr 1 (.tmp 16) (.tmp 20), none, 0, false⟩,
 ⟨none, .store 1 (.tmp 22) (.tmp 21), none, 0, true⟩])
 (.seq (.region [⟨(some 23), .move (.tmp 0), none, 0, false⟩,
 ⟨(some 24), .move (.tmp 0), none, 0, false⟩,
 ⟨(some 25), .call (.func 158) [(.tmp 24), (.const (.int .i64 1))], none, 0, false⟩,
 ⟨(some 26), .nilCheck (.tmp 23), none, 0, false⟩,
 ⟨(some 27), .fieldAddr 1 (.tmp 26), none, 0, false⟩,
 ⟨none, .store 1 (.tmp 27) (.tmp 25), none, 0, false⟩])
 (.region [⟨(some 28), .move (.tmp 0), none, 0, false⟩,
 ⟨(some 29), .nilCheck (.tmp 28), none, 0, false⟩,
 ⟨(some 30), .fieldAddr 2 (.tmp 29), none, 0, false⟩,
 ⟨(some 31), .load1 (.tmp 30), none, 0, false⟩,
 ⟨(some 32), .bin .sub (.tmp 31) (.const (.int .i64 1)), none, 0, false⟩,
 ⟨(some 33), .nilCheck (.tmp 28), none, 0, false⟩,
 ⟨(some 34), .fieldAddr 2 (.tmp 33), none, 0, false⟩,
 ⟨none, .store 1 (.tmp 34) (.tmp 32), none, 0, false⟩]))))
 .skip))
 (.seq (.region [⟨(some 35), .move (.tmp 4), none, 0, false⟩,
 ⟨(some 36), .move (.tmp 5), none, 0, false⟩,
 ⟨(some 2), .move (.tmp 35), none, 0, false⟩,
 ⟨(some 3), .move (.tmp 36), none, 0, false⟩])
 .ret))))⟩

def L180 : LFunc := ⟨29, [.tmp 6, .tmp 7],
 (.seq (.region [⟨(some 6), .move (.const (.int .i64 0)), none, 0, false⟩,
 ⟨(some 7), .move (.const (.int .i64 0)), none, 0, false⟩])
 (.seq (.region [⟨(some 11), .move (.tmp 0), none, 0, false⟩,
 ⟨(some 12), .move (.tmp 1), none, 0, false⟩,
 ⟨(some 13), .move (.tmp 2), none, 0, false⟩,
 ⟨(some 14), .buildSlice 2 1 3 [(.int .i64 0), (.int .i64 0)] [(0, 1, (.tmp 12)), (1, 1, (.tmp 13))], none, 0, false⟩,
 ⟨(some 15), .call (.func 217) [(.tmp 11), (.tmp 14)], none, 0, false⟩,
 ⟨(some 10), .move (.tmp 15), none, 0, false⟩,
 ⟨(some 16), .extract (.tmp 10) 0, none, 0, false⟩,
 ⟨(some 17), .extract (.tmp 10) 1, none, 0, false⟩,
 ⟨(some 8), .move (.tmp 16), none, 0, false⟩,
 ⟨(some 9), .move (.tmp 17), none, 0, false⟩])
 (.seq (.seq (.region [⟨(some 18), .move (.tmp 9), none, 0, false⟩,
 ⟨(some 19), .bin .neq (.tmp 18) (.const (.int .i64 0)), none, 0, false⟩])
 (.cond (.tmp 19) (.seq (.region [⟨(some 20), .move (.tmp 9), none, 0, false⟩,
 ⟨(some 6), .move (.const (.int .i64 0)), none, 0, false⟩,
 ⟨(some 7), .move (.tmp 20), none, 0, false⟩])
 .ret)
 .skip))
 (.seq (.region [⟨(some 21), .move (.tmp 2), none, 0, false⟩,
 ⟨(some 22), .move (.tmp 1), none, 0, false⟩,
 ⟨(some 23), .bin .sub (.tmp 21) (.tmp 22), none, 0, false⟩,
 ⟨(some 24), .move (.tmp 8), none, 0, false⟩,
 ⟨(some 25), .bin .add (.tmp 23) (.tmp 24), none, 0, false⟩,
 ⟨(some 26), .move (.tmp 8), none, 0, false⟩,
 ⟨(some 27), .bin .rem (.tmp 25) (.tmp 26), none, 0, false⟩,
 ⟨(some 28), .bin .add (.tmp 27) (.const (.int .i64 1)), none, 0, false⟩,
 ⟨(some 6), .move (.tmp 28), none, 0, false⟩,
 ⟨(some 7), .move (.const (.int .i64 0)), none, 0, false⟩])
 .ret))))⟩

def L181 : LFunc := ⟨31, [.cellN 2 6, .tmp 3],
 (.seq (.region [⟨(some 2), .alloc [(.int .u64 0), (.int .u32 0), (.int .u64 0), (.int .i64 0), (.int .u64 0), (.slice none 0 0)] 181, none, 0, false⟩,
 ⟨(some 3), .move (.const (.bool false)), none, 0, false⟩])
 (.seq (.region [⟨(some 4), .alloc [(.int .u64 0), (.int .u32 0), (.int .u64 0), (.int .i64 0), (.int .u64 0), (.slice none 0 0)] 181, none, 0, false⟩])
 (.seq (.region [⟨(some 5), .move (.const (.bool false)), none, 0, false⟩])
 (.seq (.seq (.region [⟨(some 9), .move (.const (.int .u64 0)), none, 0, false⟩])
 (.block 0 (.loop (.seq (.region [⟨(some 10), .bin .lss (.tmp 9) (.const (.int .u64 2)), none, 0, false⟩])
 (.seq (.cond (.tmp 10) .skip
 (.exit 0))
 (.seq (.block 1 (.seq (.region [⟨(some 11), .move (.tmp 9), none, 0, false⟩,
 ⟨(some 6), .move (.tmp 11), none, 0, false⟩])
 (.seq (.region [⟨(some 13), .move (.tmp 0), none, 0, false⟩,
 ⟨(some 14), .move (.tmp 6), none, 0, false⟩,
 ⟨(some 15), .call (.func 196) [(.tmp 14)], none, 0, false⟩,
 ⟨(some 16), .call (.func 221) [(.tmp 13), (.tmp 15)], none, 0, false⟩,
 ⟨(some 12), .move (.tmp 16), none, 0, false⟩,
 ⟨(some 17), .extract (.tmp 12) 0, none, 0, false⟩,
 ⟨(some 18), .extract (.tmp 12) 1, none, 0, false⟩,
 ⟨(some 7), .alloc [(.int .u64 0), (.int .u32 0), (.int .u64 0), (.int .i64 0), (.int .u64 0), (.slice none 0 0)] 181, none, 0, false⟩,
 ⟨none, .store 6 (.tmp 7) (.tmp 17), none, 0, false⟩,
 ⟨(some 8), .move (.tmp 18), none, 0, false⟩])
 (.seq (.region [⟨(some 19), .move (.tmp 8), none, 0, false⟩,
 ⟨(some 20), .move (.tmp 19), none, 0, false⟩,
 ⟨(some 21), .fieldAddr 0 (.tmp 7), (some (20, true)), 0, false⟩,
 ⟨(some 22), .load1 (.tmp 21), (some (20, true)), 0, false⟩,
 ⟨(some 23), .fieldAddr 0 (.tmp 4), (some (20, true)), 0, false⟩,
 ⟨(some 24), .load1 (.tmp 23), (some (20, true)), 0, false⟩,
 ⟨(some 25), .bin .gtr (.tmp 22) (.tmp 24), (some (20, true)), 0, false⟩,
 ⟨(some 26), .pick (.tmp 20) (.tmp 25) (.const (.bool false)), none, 0, false⟩])
 (.cond (.tmp 26) (.region [⟨(some 27), .loadN 6 (.tmp 7), none, 0, false⟩,
 ⟨none, .store 6 (.tmp 4) (.tmp 27), none, 0, false⟩,
 ⟨(some 5), .move (.const (.bool true)), none, 0, false⟩])
 .skip)))))
 (.region [⟨(some 28), .bin .add (.tmp 9) (.const (.int .u64 1)), none, 0, false⟩,
 ⟨(some 9), .move (.tmp 28), none, 0, false⟩])))))))
 (.seq (.region [⟨(some 29), .loadN 6 (.tmp 4), none, 0, false⟩,
 ⟨(some 30), .move (.tmp 5), none, 0, false⟩,
 ⟨none, .store 6 (.tmp 2) (.tmp 29), none, 0, false⟩,
 ⟨(some 3), .move (.tmp 30), none, 0, false⟩])
 .ret)))))⟩

def L182 : LFunc := ⟨55, [.tmp 8, .tmp 9, .tmp 10],
 (.seq (.region [⟨(some 8), .move (.const (.slice none 0 0)), none, 0, false⟩,
 ⟨(some 9), .move (.const (.int .i64 0)), none, 0, false⟩,
 ⟨(some 10), .move (.const (.int .i64 0)), none, 0, false⟩])
 (.seq (.region [⟨(some 17), .move (.tmp 0), none, 0, false⟩,
 ⟨(some 18), .move (.tmp 1), none, 0, false⟩,
 ⟨(some 19), .move (.tmp 2), none, 0, false⟩,
 ⟨(some 20), .move (.tmp 3), none, 0, false⟩,
 ⟨(some 21), .call (.func 150) [(.tmp 17), (.tmp 18), (.tmp 19), (.tmp 20)], none, 0, false⟩,
 ⟨(some 16), .move (.tmp 21), none, 0, false⟩,
 ⟨(some 22), .extract (.tmp 16) 0, none, 0, false⟩,
 ⟨(some 23), .extract (.tmp 16) 1, none, 0, false⟩,
 ⟨(some 11), .move (.tmp 22), none, 0, false⟩,
 ⟨(some 12), .move (.tmp 23), none, 0, false⟩])
 (.seq (.seq (.region [⟨(some 24), .move (.tmp 12), none, 0, false⟩,
 ⟨(some 25), .bin .neq (.tmp 24) (.const (.int .i64 0)), none, 0, false⟩])
 (.cond (.tmp 25) (.seq (.region [⟨(some 26), .move (.tmp 12), none, 0, false⟩,
 ⟨(some 8), .move (.const (.slice none 0 0)), none, 0, false⟩,
 ⟨(some 9), .move (.const (.int .i64 0)), none, 0, false⟩,
 ⟨(some 10), .move (.tmp 26), none, 0, false⟩])
 .ret)
 .skip))
 (.seq (.region [⟨(some 13), .move (.const (.slice none 0 0)), none, 0, false⟩])
 (.seq (.block 0 (.loop (.seq (.seq (.region [⟨(some 27), .move (.tmp 11), none, 0, false⟩,
 ⟨(some 28), .nilCheck (.tmp 27), none, 0, false⟩,
 ⟨(some 29), .fieldAddr 2 (.tmp 28), none, 0, false⟩,
 ⟨(some 30), .load1 (.tmp 29), none, 0, false⟩,
 ⟨(some 31), .bin .neq (.tmp 30) (.const (.int .u64 0)), none, 0, false⟩])
 (.cond (.tmp 31) .skip
 (.exit 0)))
 (.block 1 (.seq (.region [⟨(some 33), .move (.tmp 11), none, 0, false⟩,
 ⟨(some 34), .call (.func 222) [(.tmp 33)], none, 0, false⟩,
 ⟨(some 32), .move (.tmp 34), none, 0, false⟩,
 ⟨(some 35), .extract (.tmp 32) 0, none, 0, false⟩,
 ⟨(some 36), .extract (.tmp 32) 1, none, 0, false⟩,
 ⟨(some 14), .alloc [(.int .u64 0), (.int .u32 0), (.slice none 0 0)] 255, none, 0, false⟩,
 ⟨none, .store 3 (.tmp 14) (.tmp 35), none, 0, false⟩,
 ⟨(some 15), .move (.tmp 36), none, 0, false⟩])
 (.seq (.seq (.region [⟨(some 37), .move (.tmp 15), none, 0, false⟩,
 ⟨(some 38), .un .not (.tmp 37), none, 0, false⟩])
 (.cond (.tmp 38) (.exit 0)
 .skip))
 (.seq (.region [⟨(some 39), .move (.tmp 13), none, 0, false⟩,
 ⟨(some 40), .loadN 3 (.tmp 14), none, 0, false⟩,
 ⟨(some 41), .buildSlice 1 3 255 [(.int .u64 0), (.int .u32 0), (.slice none 0 0)] [(0, 3, (.tmp 40))], none, 0, false⟩,
 ⟨(some 42), .append 3 40 255 [(.int .u64 0), (.int .u32 0), (.slice none 0 0)] false (.tmp 39) (.tmp 41), none, 0, false⟩,
 ⟨(some 13), .move (.tmp 42), none, 0, false⟩])
 (.region [⟨(some 43), .move (.tmp 11), none, 0, false⟩,
 ⟨(some 44), .nilCheck (.tmp 43), none, 0, false⟩,
 ⟨(some 45), .fieldAddr 2 (.tmp 44), none, 0, false⟩,
 ⟨(some 46), .load1 (.tmp 45), none, 0, false⟩,
 ⟨(some 47), .bin .add (.tmp 46) (.const (.int .u64 1)), none, 0, false⟩,
 ⟨(some 48), .nilCheck (.tmp 43), none, 0, false⟩,
 ⟨(some 49), .fieldAddr 2 (.tmp 48), none, 0, false⟩,
 ⟨none, .store 1 (.tmp 49) (.tmp 47), none, 0, false⟩]))))))))
 (.seq (.draw [⟨(some 50), .move (.tmp 13), none, 0, false⟩,
 ⟨(some 51), .move (.tmp 11), none, 0, false⟩,
 ⟨(some 52), .nilCheck (.tmp 51), none, 0, false⟩,
 ⟨(some 53), .fieldAddr 4 (.tmp 52), none, 0, false⟩,
 ⟨(some 54), .load1 (.tmp 53), none, 0, false⟩,
 ⟨(some 8), .move (.tmp 50), none, 0, false⟩,
 ⟨(some 9), .move (.tmp 54), none, 0, false⟩,
 ⟨(some 10), .move (.const (.int .i64 0)), none, 0, false⟩])
 .ret))))))⟩

def L183 : LFunc := ⟨78, [.cellN 2 6, .tmp 3],
 (.seq (.region [⟨(some 2), .alloc [(.int .i64 0), (.int .i64 0), (.slice none 0 0), (.slice none 0 0), (.int .u64 0), (.int .u64 0)] 159, none, 0, false⟩,
 ⟨(some 3), .move (.const (.int .i64 0)), none, 0, false⟩])
 (.seq (.region [⟨(some 9), .move (.tmp 0), none, 0, false⟩,
 ⟨(some 10), .call (.func 223) [(.tmp 9)], none, 0, false⟩,
 ⟨(some 8), .move (.tmp 10), none, 0, false⟩,
 ⟨(some 11), .extract (.tmp 8) 0, none, 0, false⟩,
 ⟨(some 12), .extract (.tmp 8) 1, none, 0, false⟩,
 ⟨(some 4), .move (.tmp 11), none, 0, false⟩,
 ⟨(some 5), .move (.tmp 12), none, 0, false⟩])
 (.seq (.seq (.region [⟨(some 13), .move (.tmp 5), none, 0, false⟩,
 ⟨(some 14), .bin .neq (.tmp 13) (.const (.int .i64 0)), none, 0, false⟩,
 ⟨(some 15), .move (.tmp 14), none, 0, false⟩,
 ⟨(some 16), .move (.tmp 4), (some (15, false)), 0, false⟩,
 ⟨(some 17), .len false (.tmp 16), (some (15, false)), 0, false⟩,
 ⟨(some 18), .bin .eql (.tmp 17) (.const (.int .i64 0)), (some (15, false)), 0, false⟩,
 ⟨(some 19), .pick (.tmp 15) (.const (.bool true)) (.tmp 18), none, 0, false⟩])
 (.cond (.tmp 19) (.seq (.region [⟨(some 20), .build [(.int .i64 0), (.int .i64 0), (.slice none 0 0), (.slice none 0 0), (.int .u64 0), (.int .u64 0)] [], none, 0, false⟩,
 ⟨none, .store 6 (.tmp 2) (.tmp 20), none, 0, false⟩,
 ⟨(some 3), .move (.const (.int .i64 121)), none, 0, false⟩])
 .ret)
 .skip))
 (.seq (.region [⟨(some 6), .alloc [(.int .i64 0), (.int .i64 0), (.slice none 0 0), (.slice none 0 0), (.int .u64 0), (.int .u64 0)] 159, none, 0, false⟩])
 (.seq (.region [⟨(some 7), .move (.const (.bool false)), none, 0, false⟩])
 (.seq (.block 0 (.seq (.region [⟨(some 22), .move (.tmp 4), none, 0, false⟩,
 ⟨(some 23), .indexAddr 1 (.tmp 22) (.const (.int .i64 0)), none, 0, false⟩,
 ⟨(some 24), .load1 (.tmp 23), none, 0, false⟩,
 ⟨(some 25), .bin .eql (.tmp 24) (.const (.int .u64 1)), none, 0, false⟩,
 ⟨(some 21), .move (.tmp 25), none, 0, false⟩])
 (.cond (.tmp 21) (.region [⟨(some 27), .move (.tmp 4), none, 0, false⟩,
 ⟨(some 28), .slice 1 (.tmp 27) (some (.const (.int .i64 1))) none none, none, 0, false⟩,
 ⟨(some 29), .call (.func 224) [(.tmp 28)], none, 0, false⟩,
 ⟨(some 26), .move (.tmp 29), none, 0, false⟩,
 ⟨(some 30), .extract (.tmp 26) 0, none, 0, false⟩,
 ⟨(some 31), .extract (.tmp 26) 1, none, 0, false⟩,
 ⟨none, .store 6 (.tmp 6) (.tmp 30), none, 0, false⟩,
 ⟨(some 7), .move (.tmp 31), none, 0, false⟩])
 (.seq (.region [⟨(some 33), .move (.tmp 4), none, 0, false⟩,
 ⟨(some 34), .indexAddr 1 (.tmp 33) (.const (.int .i64 0)), none, 0, false⟩,
 ⟨(some 35), .load1 (.tmp 34), none, 0, false⟩,
 ⟨(some 36), .bin .eql (.tmp 35) (.const (.int .u64 2)), none, 0, false⟩,
 ⟨(some 37), .move (.tmp 36), none, 0, false⟩,
 ⟨(some 38), .move (.tmp 4), (some (37, true)), 0, false⟩,
 ⟨(some 39), .len false (.tmp 38), (some (37, true)), 0, false⟩,
 ⟨(some 40), .bin .eql (.tmp 39) (.const (.int .i64 3)), (some (37, true)), 0, false⟩,
 ⟨(some 41), .pick (.tmp 37) (.tmp 40) (.const (.bool false)), none, 0, false⟩,
 ⟨(some 32), .move (.tmp 41), none, 0, false⟩])
 (.cond (.tmp 32) (.seq (.draw [⟨(some 45), .fieldAddr 0 (.tmp 6), none, 0, false⟩,
 ⟨none, .store 1 (.tmp 45) (.const (.int .i64 2)), none, 0, true⟩,
 ⟨(some 42), .move (.tmp 4), none, 0, false⟩,
 ⟨(some 43), .indexAddr 1 (.tmp 42) (.const (.int .i64 2)), none, 0, false⟩,
 ⟨(some 44), .load1 (.tmp 43), none, 0, false⟩,
 ⟨(some 46), .fieldAddr 4 (.tmp 6), none, 1, false⟩,
 ⟨none, .store 1 (.tmp 46) (.tmp 44), none, 1, true⟩])
 (.region [⟨(some 48), .move (.tmp 4), none, 0, false⟩,
 ⟨(some 49), .indexAddr 1 (.tmp 48) (.const (.int .i64 1)), none, 0, false⟩,
 ⟨(some 50), .load1 (.tmp 49), none, 0, false⟩,
 ⟨(some 51), .call (.func 60) [(.tmp 50)], none, 0, false⟩,
 ⟨(some 47), .move (.tmp 51), none, 0, false⟩,
 ⟨(some 52), .extract (.tmp 47) 0, none, 0, false⟩,
 ⟨(some 53), .extract (.tmp 47) 1, none, 0, false⟩,
 ⟨(some 54), .fieldAddr 1 (.tmp 6), none, 0, false⟩,
 ⟨none, .store 1 (.tmp 54) (.tmp 52), none, 0, false⟩,
 ⟨(some 7), .move (.tmp 53), none, 0, false⟩]))
 (.seq (.region [⟨(some 56), .move (.tmp 4), none, 0, false⟩,
 ⟨(some 57), .indexAddr 1 (.tmp 56) (.const (.int .i64 0)), none, 0, false⟩,
 ⟨(some 58), .load1 (.tmp 57), none, 0, false⟩,
 ⟨(some 59), .bin .eql (.tmp 58) (.const (.int .u64 3)), none, 0, false⟩,
 ⟨(some 60), .move (.tmp 59), none, 0, false⟩,
 ⟨(some 61), .move (.tmp 4), (some (60, true)), 0, false⟩,
 ⟨(some 62), .len false (.tmp 61), (some (60, true)), 0, false⟩,
 ⟨(some 63), .bin .eql (.tmp 62) (.const (.int .i64 2)), (some (60, true)), 0, false⟩,
 ⟨(some 64), .pick (.tmp 60) (.tmp 63) (.const (.bool false)), none, 0, false⟩,
 ⟨(some 55), .move (.tmp 64), none, 0, false⟩])
 (.cond (.tmp 55) (.region [⟨(some 65), .move (.tmp 4), none, 0, false⟩,
 ⟨(some 66), .indexAddr 1 (.tmp 65) (.const (.int .i64 1)), none, 0, false⟩,
 ⟨(some 67), .load1 (.tmp 66), none, 0, false⟩,
 ⟨(some 68), .build [(.int .i64 0), (.int .i64 0), (.slice none 0 0), (.slice none 0 0), (.int .u64 0), (.int .u64 0)] [(0, 1, (.const (.int .i64 3))), (5, 1, (.tmp 67))], none, 0, false⟩,
 ⟨none, .store 6 (.tmp 6) (.tmp 68), none, 0, false⟩,
 ⟨(some 7), .move (.const (.bool true)), none, 0, false⟩])
 .skip)))))))
 (.seq (.seq (.region [⟨(some 69), .move (.tmp 7), none, 0, false⟩,
 ⟨(some 70), .un .not (.tmp 69), none, 0, false⟩,
 ⟨(some 71), .move (.tmp 70), none, 0, false⟩,
 ⟨(some 72), .loadN 6 (.tmp 6), (some (71, false)), 0, false⟩,
 ⟨(some 73), .call (.func 162) [(.tmp 72)], (some (71, false)), 0, false⟩,
 ⟨(some 74), .un .not (.tmp 73), (some (71, false)), 0, false⟩,
 ⟨(some 75), .pick (.tmp 71) (.const (.bool true)) (.tmp 74), none, 0, false⟩])
 (.cond (.tmp 75) (.seq (.region [⟨(some 76), .build [(.int .i64 0), (.int .i64 0), (.slice none 0 0), (.slice none 0 0), (.int .u64 0), (.int .u64 0)] [], none, 0, false⟩,
 ⟨none, .store 6 (.tmp 2) (.tmp 76), none, 0, false⟩,
 ⟨(some 3), .move (.const (.int .i64 121)), none, 0, false⟩])
 .ret)
 .skip))
 (.seq (.region [⟨(some 77), .loadN 6 (.tmp 6), none, 0, false⟩,
 ⟨none, .store 6 (.tmp 2) (.tmp 77), none, 0, false⟩,
 ⟨(some 3), .move (.const (.int .i64 0)), none, 0, false⟩])
 .ret))))))))⟩

def L184 : LFunc := ⟨49, [.tmp 8, .tmp 9],
 (.seq (.region [⟨(some 5), .box 6 181 (.tmp 1), none, 0, false⟩,
 ⟨(some 8), .move (.const (.pointer none)), none, 0, false⟩,
 ⟨(some 9), .move (.const (.int .i64 0)), none, 0, false⟩])
 (.seq (.seq (.region [⟨(some 12), .fieldAddr 0 (.tmp 5), none, 0, false⟩,
 ⟨(some 13), .load1 (.tmp 12), none, 0, false⟩,
 ⟨(some 14), .bin .geq (.tmp 13) (.const (.int .u64 281474976710656)), none, 0, false⟩,
 ⟨(some 15), .move (.tmp 14), none, 0, false⟩,
 ⟨(some 16), .fieldAddr 1 (.tmp 5), (some (15, false)), 0, false⟩,
 ⟨(some 17), .load1 (.tmp 16), (some (15, false)), 0, false⟩,
 ⟨(some 18), .bin .geq (.tmp 17) (.const (.int .u32 2147483648)), (some (15, false)), 0, false⟩,
 ⟨(some 19), .pick (.tmp 15) (.const (.bool true)) (.tmp 18), none, 0, false⟩,
 ⟨(some 20), .move (.tmp 19), none, 0, false⟩,
 ⟨(some 21), .move (.tmp 2), (some (20, false)), 0, false⟩,
 ⟨(some 22), .bin .gtr (.tmp 21) (.const (.int .u64 281474976710656)), (some (20, false)), 0, false⟩,
 ⟨(some 23), .pick (.tmp 20) (.const (.bool true)) (.tmp 22), none, 0, false⟩])
 (.cond (.tmp 23) (.seq (.region [⟨(some 8), .move (.const (.pointer none)), none, 0, false⟩,
 ⟨(some 9), .move (.const (.int .i64 101)), none, 0, false⟩])
 .ret)
 .skip))
 (.seq (.region [⟨(some 25), .move (.tmp 0), none, 0, false⟩,
 ⟨(some 26), .call (.func 107) [(.tmp 25)], none, 0, false⟩,
 ⟨(some 27), .move (.tmp 3), none, 0, false⟩,
 ⟨(some 28), .call (.func 225) [(.tmp 26), (.tmp 27)], none, 0, false⟩,
 ⟨(some 24), .move (.tmp 28), none, 0, false⟩,
 ⟨(some 29), .extract (.tmp 24) 0, none, 0, false⟩,
 ⟨(some 30), .extract (.tmp 24) 1, none, 0, false⟩,
 ⟨(some 10), .move (.tmp 29), none, 0, false⟩,
 ⟨(some 11), .move (.tmp 30), none, 0, false⟩])
 (.seq (.seq (.region [⟨(some 31), .move (.tmp 11), none, 0, false⟩,
 ⟨(some 32), .bin .neq (.tmp 31) (.const (.int .i64 0)), none, 0, false⟩])
 (.cond (.tmp 32) (.seq (.region [⟨(some 33), .move (.tmp 11), none, 0, false⟩,
 ⟨(some 8), .move (.const (.pointer none)), none, 0, false⟩,
 ⟨(some 9), .move (.tmp 33), none, 0, false⟩])
 .ret)
 .skip))
 (.seq (.region [⟨(some 34), .move (.tmp 0), none, 0, false⟩,
 ⟨(some 35), .fieldAddr 0 (.tmp 5), none, 0, false⟩,
 ⟨(some 36), .load1 (.tmp 35), none, 0, false⟩,
 ⟨(some 37), .bin .add (.tmp 36) (.const (.int .u64 1)), none, 0, false⟩,
 ⟨(some 38), .fieldAddr 1 (.tmp 5), none, 0, false⟩,
 ⟨(some 39), .load1 (.tmp 38), none, 0, false⟩,
 ⟨(some 40), .bin .add (.tmp 39) (.const (.int .u32 1)), none, 0, false⟩,
 ⟨(some 41), .move (.tmp 2), none, 0, false⟩,
 ⟨(some 42), .move (.tmp 10), none, 0, false⟩,
 ⟨(some 43), .fieldAddr 4 (.tmp 5), none, 0, false⟩,
 ⟨(some 44), .loadN 2 (.tmp 43), none, 0, false⟩,
 ⟨(some 45), .build [(.int .u64 0), (.int .u32 0), (.int .u64 0), (.int .i64 0), (.int .u64 0), (.slice none 0 0)] [(0, 1, (.tmp 37)), (1, 1, (.tmp 40)), (2, 1, (.tmp 41)), (3, 1, (.tmp 42)), (4, 2, (.tmp 44))], none, 0, false⟩,
 ⟨(some 46), .call (.func 108) [(.tmp 34), (.tmp 45)], none, 0, false⟩,
 ⟨(some 47), .extract (.tmp 46) 0, none, 0, false⟩,
 ⟨(some 48), .extract (.tmp 46) 1, none, 0, false⟩,
 ⟨(some 8), .move (.tmp 47), none, 0, false⟩,
 ⟨(some 9), .move (.tmp 48), none, 0, false⟩])
 .ret)))))⟩

def L185 : LFunc := ⟨9, [.tmp 2],
 (.seq (.region [⟨(some 2), .move (.const (.slice none 0 0)), none, 0, false⟩])
 (.seq (.region [⟨(some 4), .move (.tmp 0), none, 0, false⟩,
 ⟨(some 5), .call (.func 226) [(.tmp 4)], none, 0, false⟩,
 ⟨(some 3), .move (.tmp 5), none, 0, false⟩])
 (.seq (.region [⟨(some 6), .move (.tmp 3), none, 0, false⟩,
 ⟨(some 7), .call (.func 227) [(.tmp 6)], none, 0, false⟩])
 (.seq (.region [⟨(some 8), .move (.tmp 3), none, 0, false⟩,
 ⟨(some 2), .move (.tmp 8), none, 0, false⟩])
 .ret))))⟩

def L186 : LFunc := ⟨4, [.tmp 2],
 (.seq (.region [⟨(some 1), .box 1 282 (.tmp 0), none, 0, false⟩,
 ⟨(some 2), .move (.const .nilFunc), none, 0, false⟩])
 (.seq (.region [⟨(some 3), .mkFunc (.func 228) [] [(.tmp 1)], none, 0, false⟩,
 ⟨(some 2), .move (.tmp 3), none, 0, false⟩])
 .ret))⟩

def L187 : LFunc := ⟨19, [.cellN 4 14, .tmp 5],
 (.seq (.region [⟨(some 2), .box 2 154 (.tmp 0), none, 0, false⟩,
 ⟨(some 4), .alloc [(.int .i64 0), (.int .u8 0), (.int .u8 0), (.int .u8 0), (.int .u8 0), (.int .i64 0), (.int .u64 0), (.int .u64 0), (.int .u64 0), (.int .u64 0), (.int .u64 0), (.int .u64 0), (.int .u64 0), (.int .u64 0)] 185, none, 0, false⟩,
 ⟨(some 5), .move (.const (.bool false)), none, 0, false⟩])
 (.seq (.region [⟨(some 7), .fieldAddr 1 (.tmp 2), none, 0, false⟩,
 ⟨(some 8), .load1 (.tmp 7), none, 0, false⟩,
 ⟨(some 9), .move (.tmp 1), none, 0, false⟩,
 ⟨(some 10), .call (.func 208) [(.tmp 8), (.tmp 9)], none, 0, false⟩,
 ⟨(some 6), .move (.tmp 10), none, 0, false⟩])
 (.seq (.seq (.region [⟨(some 11), .move (.tmp 6), none, 0, false⟩,
 ⟨(some 12), .bin .lss (.tmp 11) (.const (.int .i64 0)), none, 0, false⟩])
 (.cond (.tmp 12) (.seq (.region [⟨(some 13), .build [(.int .i64 0), (.int .u8 0), (.int .u8 0), (.int .u8 0), (.int .u8 0), (.int .i64 0), (.int .u64 0), (.int .u64 0), (.int .u64 0), (.int .u64 0), (.int .u64 0), (.int .u64 0), (.int .u64 0), (.int .u64 0)] [], none, 0, false⟩,
 ⟨none, .store 14 (.tmp 4) (.tmp 13), none, 0, false⟩,
 ⟨(some 5), .move (.const (.bool false)), none, 0, false⟩])
 .ret)
 .skip))
 (.seq (.region [⟨(some 14), .fieldAddr 1 (.tmp 2), none, 0, false⟩,
 ⟨(some 15), .load1 (.tmp 14), none, 0, false⟩,
 ⟨(some 16), .move (.tmp 6), none, 0, false⟩,
 ⟨(some 17), .indexAddr 14 (.tmp 15) (.tmp 16), none, 0, false⟩,
 ⟨(some 18), .loadN 14 (.tmp 17), none, 0, false⟩,
 ⟨none, .store 14 (.tmp 4) (.tmp 18), none, 0, false⟩,
 ⟨(some 5), .move (.const (.bool true)), none, 0, false⟩])
 .ret))))⟩

def L188 : LFunc := ⟨46, [.tmp 2],
 (.seq (.region [⟨(some 1), .box 13 34 (.tmp 0), none, 0, false⟩,
 ⟨(some 2), .move (.const (.bool false)), none, 0, false⟩])
 (.seq (.region [⟨(some 3), .move (.func 229), none, 0, false⟩])
 (.seq (.region [⟨(some 4), .move (.func 230), none, 0, false⟩])
 (.seq (.region [⟨(some 6), .fieldAddr 11 (.tmp 1), none, 0, false⟩,
 ⟨(some 7), .load1 (.tmp 6), none, 0, false⟩,
 ⟨(some 8), .fieldAddr 12 (.tmp 1), none, 0, false⟩,
 ⟨(some 9), .load1 (.tmp 8), none, 0, false⟩,
 ⟨(some 10), .buildSlice 2 1 26 [(.int .u64 0), (.int .u64 0)] [(0, 1, (.tmp 7)), (1, 1, (.tmp 9))], none, 0, false⟩,
 ⟨(some 5), .move (.tmp 10), none, 0, false⟩])
 (.seq (.block 0 (.seq (.region [⟨(some 12), .fieldAddr 0 (.tmp 1), none, 0, false⟩,
 ⟨(some 13), .load1 (.tmp 12), none, 0, false⟩,
 ⟨(some 14), .bin .lss (.tmp 13) (.const (.int .i64 1)), none, 0, false⟩,
 ⟨(some 15), .move (.tmp 14), none, 0, false⟩,
 ⟨(some 16), .fieldAddr 0 (.tmp 1), (some (15, false)), 0, false⟩,
 ⟨(some 17), .load1 (.tmp 16), (some (15, false)), 0, false⟩,
 ⟨(some 18), .bin .gtr (.tmp 17) (.const (.int .i64 255)), (some (15, false)), 0, false⟩,
 ⟨(some 19), .pick (.tmp 15) (.const (.bool true)) (.tmp 18), none, 0, false⟩,
 ⟨(some 20), .move (.tmp 19), none, 0, false⟩,
 ⟨(some 21), .fieldAddr 1 (.tmp 1), (some (20, false)), 0, false⟩,
 ⟨(some 22), .loadN 5 (.tmp 21), (some (20, false)), 0, false⟩,
 ⟨(some 23), .call (.func 198) [(.tmp 22)], (some (20, false)), 0, false⟩,
 ⟨(some 24), .un .not (.tmp 23), (some (20, false)), 0, false⟩,
 ⟨(some 25), .pick (.tmp 20) (.const (.bool true)) (.tmp 24), none, 0, false⟩,
 ⟨(some 11), .move (.tmp 25), none, 0, false⟩])
 (.cond (.tmp 11) (.seq (.region [⟨(some 2), .move (.const (.bool false)), none, 0, false⟩])
 .ret)
 (.seq (.region [⟨(some 27), .move (.tmp 5), none, 0, false⟩,
 ⟨(some 28), .fieldAddr 6 (.tmp 1), none, 0, false⟩,
 ⟨(some 29), .load1 (.tmp 28), none, 0, false⟩,
 ⟨(some 30), .fieldAddr 7 (.tmp 1), none, 0, false⟩,
 ⟨(some 31), .load1 (.tmp 30), none, 0, false⟩,
 ⟨(some 32), .fieldAddr 8 (.tmp 1), none, 0, false⟩,
 ⟨(some 33), .load1 (.tmp 32), none, 0, false⟩,
 ⟨(some 34), .fieldAddr 9 (.tmp 1), none, 0, false⟩,
 ⟨(some 35), .load1 (.tmp 34), none, 0, false⟩,
 ⟨(some 36), .fieldAddr 10 (.tmp 1), none, 0, false⟩,
 ⟨(some 37), .load1 (.tmp 36), none, 0, false⟩,
 ⟨(some 38), .buildSlice 5 1 26 [(.int .u64 0), (.int .u64 0), (.int .u64 0), (.int .u64 0), (.int .u64 0)] [(0, 1, (.tmp 29)), (1, 1, (.tmp 31)), (2, 1, (.tmp 33)), (3, 1, (.tmp 35)), (4, 1, (.tmp 37))], none, 0, false⟩,
 ⟨(some 39), .append 1 8 26 [(.int .u64 0)] false (.tmp 27) (.tmp 38), none, 0, false⟩,
 ⟨(some 40), .move (.tmp 3), none, 0, false⟩,
 ⟨(some 41), .call (.func 231) [(.tmp 39), (.tmp 40)], none, 0, false⟩,
 ⟨(some 26), .move (.tmp 41), none, 0, false⟩])
 (.cond (.tmp 26) (.seq (.region [⟨(some 2), .move (.const (.bool false)), none, 0, false⟩])
 .ret)
 .skip)))))
 (.seq (.region [⟨(some 42), .move (.tmp 5), none, 0, false⟩,
 ⟨(some 43), .move (.tmp 4), none, 0, false⟩,
 ⟨(some 44), .call (.func 231) [(.tmp 42), (.tmp 43)], none, 0, false⟩,
 ⟨(some 45), .un .not (.tmp 44), none, 0, false⟩,
 ⟨(some 2), .move (.tmp 45), none, 0, false⟩])
 .ret))))))⟩

def L189 : LFunc := ⟨31, [.tmp 4],
 (.seq (.region [⟨(some 3), .box 1 3 (.tmp 1), none, 0, false⟩,
 ⟨(some 4), .move (.const (.bool false)), none, 0, false⟩])
 (.seq (.draw [⟨(some 8), .move (.tmp 0), none, 0, false⟩,
 ⟨(some 9), .nilCheck (.tmp 8), none, 0, false⟩,
 ⟨(some 10), .fieldAddr 0 (.tmp 9), none, 0, false⟩,
 ⟨(some 11), .load1 (.tmp 10), none, 0, false⟩,
 ⟨(some 12), .load1 (.tmp 3), none, 0, false⟩,
 ⟨(some 13), .lookup (.prim .n) (.pointer none) true (.tmp 11) (.tmp 12), none, 0, false⟩,
 ⟨(some 7), .move (.tmp 13), none, 0, false⟩,
 ⟨(some 14), .extract (.tmp 7) 0, none, 0, false⟩,
 ⟨(some 15), .extract (.tmp 7) 1, none, 0, false⟩,
 ⟨(some 5), .move (.tmp 14), none, 0, false⟩,
 ⟨(some 6), .move (.tmp 15), none, 0, false⟩])
 (.seq (.draw [⟨(some 16), .move (.tmp 0), none, 0, false⟩,
 ⟨(some 17), .nilCheck (.tmp 16), none, 0, false⟩,
 ⟨(some 18), .fieldAddr 0 (.tmp 17), none, 0, false⟩,
 ⟨(some 19), .load1 (.tmp 18), none, 0, false⟩,
 ⟨(some 20), .load1 (.tmp 3), none, 0, false⟩,
 ⟨none, .delete (.prim .n) (.tmp 19) (.tmp 20), none, 0, true⟩])
 (.seq (.region [⟨(some 21), .move (.tmp 0), none, 0, false⟩,
 ⟨(some 22), .move (.tmp 0), none, 0, false⟩,
 ⟨(some 23), .nilCheck (.tmp 22), none, 0, false⟩,
 ⟨(some 24), .fieldAddr 1 (.tmp 23), none, 0, false⟩,
 ⟨(some 25), .load1 (.tmp 24), none, 0, false⟩,
 ⟨(some 26), .mkFunc (.func 233) [] [(.tmp 3)], none, 0, false⟩,
 ⟨(some 27), .call (.func 232) [(.tmp 25), (.tmp 26)], none, 0, false⟩,
 ⟨(some 28), .nilCheck (.tmp 21), none, 0, false⟩,
 ⟨(some 29), .fieldAddr 1 (.tmp 28), none, 0, false⟩,
 ⟨none, .store 1 (.tmp 29) (.tmp 27), none, 0, false⟩])
 (.seq (.region [⟨(some 30), .move (.tmp 6), none, 0, false⟩,
 ⟨(some 4), .move (.tmp 30), none, 0, false⟩])
 .ret)))))⟩

def L190 : LFunc := ⟨22, [.tmp 4],
 (.seq (.region [⟨(some 3), .box 5 32 (.tmp 1), none, 0, false⟩,
 ⟨(some 4), .move (.const (.bool false)), none, 0, false⟩])
 (.seq (.draw [⟨(some 8), .move (.tmp 0), none, 0, false⟩,
 ⟨(some 9), .nilCheck (.tmp 8), none, 0, false⟩,
 ⟨(some 10), .fieldAddr 0 (.tmp 9), none, 0, false⟩,
 ⟨(some 11), .load1 (.tmp 10), none, 0, false⟩,
 ⟨(some 12), .loadN 5 (.tmp 3), none, 0, false⟩,
 ⟨(some 13), .lookup (.agg 5 [(0, .n), (1, .n), (2, .n), (3, .n), (4, .n)]) (.int .i64 0) true (.tmp 11) (.tmp 12), none, 0, false⟩,
 ⟨(some 7), .move (.tmp 13), none, 0, false⟩,
 ⟨(some 14), .extract (.tmp 7) 0, none, 0, false⟩,
 ⟨(some 15), .extract (.tmp 7) 1, none, 0, false⟩,
 ⟨(some 5), .move (.tmp 14), none, 0, false⟩,
 ⟨(some 6), .move (.tmp 15), none, 0, false⟩])
 (.seq (.draw [⟨(some 16), .move (.tmp 0), none, 0, false⟩,
 ⟨(some 17), .nilCheck (.tmp 16), none, 0, false⟩,
 ⟨(some 18), .fieldAddr 0 (.tmp 17), none, 0, false⟩,
 ⟨(some 19), .load1 (.tmp 18), none, 0, false⟩,
 ⟨(some 20), .loadN 5 (.tmp 3), none, 0, false⟩,
 ⟨none, .delete (.agg 5 [(0, .n), (1, .n), (2, .n), (3, .n), (4, .n)]) (.tmp 19) (.tmp 20), none, 0, true⟩])
 (.seq (.region [⟨(some 21), .move (.tmp 6), none, 0, false⟩,
 ⟨(some 4), .move (.tmp 21), none, 0, false⟩])
 .ret))))⟩

def L191 : LFunc := ⟨13, [],
 (.region [⟨(some 6), .move (.tmp 0), none, 0, false⟩,
 ⟨(some 7), .move (.tmp 1), none, 0, false⟩,
 ⟨(some 8), .move (.tmp 2), none, 0, false⟩,
 ⟨(some 9), .call (.func 153) [(.tmp 7), (.tmp 8)], none, 0, false⟩,
 ⟨(some 10), .nilCheck (.tmp 9), none, 0, false⟩,
 ⟨(some 11), .loadN 3 (.tmp 10), none, 0, false⟩,
 ⟨(some 12), .nilCheck (.tmp 6), none, 0, false⟩,
 ⟨none, .store 3 (.tmp 12) (.tmp 11), none, 0, false⟩])⟩

def L192 : LFunc := ⟨23, [.tmp 6],
 (.seq (.region [⟨(some 6), .move (.const (.int .i64 0)), none, 0, false⟩])
 (.seq (.region [⟨(some 8), .move (.tmp 1), none, 0, false⟩,
 ⟨(some 9), .move (.tmp 2), none, 0, false⟩,
 ⟨(some 10), .buildSlice 2 1 26 [(.int .u64 0), (.int .u64 0)] [(0, 1, (.tmp 8)), (1, 1, (.tmp 9))], none, 0, false⟩,
 ⟨(some 11), .call (.func 197) [(.tmp 10)], none, 0, false⟩,
 ⟨(some 7), .move (.tmp 11), none, 0, false⟩])
 (.seq (.seq (.region [⟨(some 12), .move (.tmp 7), none, 0, false⟩,
 ⟨(some 13), .bin .eql (.tmp 12) (.const (.int .i64 0)), none, 0, false⟩])
 (.cond (.tmp 13) (.region [⟨(some 14), .move (.tmp 0), none, 0, false⟩,
 ⟨(some 15), .move (.tmp 0), none, 0, false⟩,
 ⟨(some 16), .move (.tmp 1), none, 0, false⟩,
 ⟨(some 17), .move (.tmp 2), none, 0, false⟩,
 ⟨(some 18), .nilCheck (.tmp 14), none, 0, false⟩,
 ⟨(some 19), .fieldAddr 0 (.tmp 18), none, 0, false⟩,
 ⟨none, .store 1 (.tmp 19) (.tmp 16), none, 0, false⟩,
 ⟨(some 20), .nilCheck (.tmp 15), none, 0, false⟩,
 ⟨(some 21), .fieldAddr 1 (.tmp 20), none, 0, false⟩,
 ⟨none, .store 1 (.tmp 21) (.tmp 17), none, 0, false⟩])
 .skip))
 (.seq (.region [⟨(some 22), .move (.tmp 7), none, 0, false⟩,
 ⟨(some 6), .move (.tmp 22), none, 0, false⟩])
 .ret))))⟩

def L193 : LFunc := ⟨7, [.tmp 2],
 (.seq (.region [⟨(some 2), .move (.const (.int .i64 0)), none, 0, false⟩])
 (.seq (.region [⟨(some 3), .move (.tmp 0), none, 0, false⟩,
 ⟨(some 4), .nilCheck (.tmp 3), none, 0, false⟩,
 ⟨(some 5), .fieldAddr 4 (.tmp 4), none, 0, false⟩,
 ⟨(some 6), .load1 (.tmp 5), none, 0, false⟩,
 ⟨(some 2), .move (.tmp 6), none, 0, false⟩])
 .ret))⟩

def L194 : LFunc := ⟨25, [.tmp 2],
 (.seq (.region [⟨(some 2), .move (.const (.int .i64 0)), none, 0, false⟩])
 (.seq (.seq (.region [⟨(some 3), .move (.tmp 0), none, 0, false⟩,
 ⟨(some 4), .bin .geq (.tmp 3) (.const (.int .u64 4294967296)), none, 0, false⟩])
 (.cond (.tmp 4) (.seq (.region [⟨(some 5), .move (.tmp 0), none, 0, false⟩,
 ⟨(some 6), .bin .shr (.tmp 5) (.const (.int .u64 32)), none, 0, false⟩,
 ⟨(some 0), .move (.tmp 6), none, 0, false⟩])
 (.region [⟨(some 2), .move (.const (.int .i64 32)), none, 0, false⟩]))
 .skip))
 (.seq (.seq (.region [⟨(some 7), .move (.tmp 0), none, 0, false⟩,
 ⟨(some 8), .bin .geq (.tmp 7) (.const (.int .u64 65536)), none, 0, false⟩])
 (.cond (.tmp 8) (.seq (.region [⟨(some 9), .move (.tmp 0), none, 0, false⟩,
 ⟨(some 10), .bin .shr (.tmp 9) (.const (.int .u64 16)), none, 0, false⟩,
 ⟨(some 0), .move (.tmp 10), none, 0, false⟩])
 (.region [⟨(some 11), .move (.tmp 2), none, 0, false⟩,
 ⟨(some 12), .bin .add (.tmp 11) (.const (.int .i64 16)), none, 0, false⟩,
 ⟨(some 2), .move (.tmp 12), none, 0, false⟩]))
 .skip))
 (.seq (.seq (.region [⟨(some 13), .move (.tmp 0), none, 0, false⟩,
 ⟨(some 14), .bin .geq (.tmp 13) (.const (.int .u64 256)), none, 0, false⟩])
 (.cond (.tmp 14) (.seq (.region [⟨(some 15), .move (.tmp 0), none, 0, false⟩,
 ⟨(some 16), .bin .shr (.tmp 15) (.const (.int .u64 8)), none, 0, false⟩,
 ⟨(some 0), .move (.tmp 16), none, 0, false⟩])
 (.region [⟨(some 17), .move (.tmp 2), none, 0, false⟩,
 ⟨(some 18), .bin .add (.tmp 17) (.const (.int .i64 8)), none, 0, false⟩,
 ⟨(some 2), .move (.tmp 18), none, 0, false⟩]))
 .skip))
 (.seq (.region [⟨(some 19), .move (.tmp 2), none, 0, false⟩,
 ⟨(some 20), .move (.tmp 0), none, 0, false⟩,
 ⟨(some 21), .conv (.int .u8) (.tmp 20), none, 0, false⟩,
 ⟨(some 22), .indexStr (.const (.string ⟨⟨[0, 1, 2, 2, 3, 3, 3, 3, 4, 4, 4, 4, 4, 4, 4, 4, 5, 5, 5, 5, 5, 5, 5, 5, 5, 5, 5, 5, 5, 5, 5, 5, 6, 6, 6, 6, 6, 6, 6, 6, 6, 6, 6, 6, 6, 6, 6, 6, 6, 6, 6, 6, 6, 6, 6, 6, 6, 6, 6, 6, 6, 6, 6, 6, 7, 7, 7, 7, 7, 7, 7, 7, 7, 7, 7, 7, 7, 7, 7, 7, 7, 7, 7, 7, 7, 7, 7, 7, 7, 7, 7, 7, 7, 7, 7, 7, 7, 7, 7, 7, 7, 7, 7, 7, 7, 7, 7, 7, 7, 7, 7, 7, 7, 7, 7, 7, 7, 7, 7, 7, 7, 7, 7, 7, 7, 7, 7, 7, 8, 8, 8, 8, 8, 8, 8, 8, 8, 8, 8, 8, 8, 8, 8, 8, 8, 8, 8, 8, 8, 8, 8, 8, 8, 8, 8, 8, 8, 8, 8, 8, 8, 8, 8, 8, 8, 8, 8, 8, 8, 8, 8, 8, 8, 8, 8, 8, 8, 8, 8, 8, 8, 8, 8, 8, 8, 8, 8, 8, 8, 8, 8, 8, 8, 8, 8, 8, 8, 8, 8, 8, 8, 8, 8, 8, 8, 8, 8, 8, 8, 8, 8, 8, 8, 8, 8, 8, 8, 8, 8, 8, 8, 8, 8, 8, 8, 8, 8, 8, 8, 8, 8, 8, 8, 8, 8, 8, 8, 8, 8, 8, 8, 8, 8, 8, 8, 8, 8, 8, 8, 8, 8, 8, 8, 8, 8, 8]⟩⟩)) (.tmp 21), none, 0, false⟩,
 ⟨(some 23), .conv (.int .i64) (.tmp 22), none, 0, false⟩,
 ⟨(some 24), .bin .add (.tmp 19) (.tmp 23), none, 0, false⟩,
 ⟨(some 2), .move (.tmp 24), none, 0, false⟩])
 .ret)))))⟩

def L195 : LFunc := ⟨37, [.cellN 4 3, .tmp 5],
 (.seq (.region [⟨(some 3), .box 6 181 (.tmp 1), none, 0, false⟩,
 ⟨(some 4), .alloc [(.int .u64 0), (.int .u32 0), (.slice none 0 0)] 255, none, 0, false⟩,
 ⟨(some 5), .move (.const (.int .i64 0)), none, 0, false⟩])
 (.seq (.seq (.region [⟨(some 8), .move (.tmp 0), none, 0, false⟩,
 ⟨(some 9), .loadN 6 (.tmp 3), none, 0, false⟩,
 ⟨(some 10), .call (.func 234) [(.tmp 8), (.tmp 9)], none, 0, false⟩,
 ⟨(some 11), .un .not (.tmp 10), none, 0, false⟩])
 (.cond (.tmp 11) (.seq (.region [⟨(some 12), .build [(.int .u64 0), (.int .u32 0), (.slice none 0 0)] [], none, 0, false⟩,
 ⟨none, .store 3 (.tmp 4) (.tmp 12), none, 0, false⟩,
 ⟨(some 5), .move (.const (.int .i64 141)), none, 0, false⟩])
 .ret)
 .skip))
 (.seq (.region [⟨(some 14), .fieldAddr 4 (.tmp 3), none, 0, false⟩,
 ⟨(some 15), .loadN 2 (.tmp 14), none, 0, false⟩,
 ⟨(some 16), .call (.func 235) [(.tmp 15)], none, 0, false⟩,
 ⟨(some 13), .move (.tmp 16), none, 0, false⟩,
 ⟨(some 17), .extract (.tmp 13) 0, none, 0, false⟩,
 ⟨(some 18), .extract (.tmp 13) 1, none, 0, false⟩,
 ⟨(some 6), .move (.tmp 17), none, 0, false⟩,
 ⟨(some 7), .move (.tmp 18), none, 0, false⟩])
 (.seq (.seq (.region [⟨(some 19), .move (.tmp 7), none, 0, false⟩,
 ⟨(some 20), .bin .neq (.tmp 19) (.const (.int .i64 0)), none, 0, false⟩])
 (.cond (.tmp 20) (.seq (.region [⟨(some 21), .build [(.int .u64 0), (.int .u32 0), (.slice none 0 0)] [], none, 0, false⟩,
 ⟨none, .store 3 (.tmp 4) (.tmp 21), none, 0, false⟩,
 ⟨(some 5), .move (.const (.int .i64 141)), none, 0, false⟩])
 .ret)
 .skip))
 (.seq (.draw [⟨(some 26), .fieldAddr 2 (.tmp 3), none, 0, false⟩,
 ⟨(some 27), .load1 (.tmp 26), none, 0, false⟩,
 ⟨(some 28), .fieldAddr 3 (.tmp 3), none, 0, false⟩,
 ⟨(some 29), .load1 (.tmp 28), none, 0, false⟩,
 ⟨(some 30), .conv (.int .u64) (.tmp 29), none, 0, false⟩,
 ⟨(some 31), .buildSlice 2 1 26 [(.int .u64 0), (.int .u64 0)] [(0, 1, (.tmp 27)), (1, 1, (.tmp 30))], none, 0, false⟩,
 ⟨(some 32), .call (.func 21) [(.tmp 31)], none, 0, true⟩,
 ⟨(some 33), .move (.tmp 6), none, 0, false⟩,
 ⟨(some 34), .buildSlice 2 1 22 [(.slice none 0 0), (.slice none 0 0)] [(0, 1, (.tmp 32)), (1, 1, (.tmp 33))], none, 1, false⟩,
 ⟨(some 35), .call (.func 42) [(.tmp 34)], none, 1, true⟩,
 ⟨(some 22), .fieldAddr 0 (.tmp 3), none, 0, false⟩,
 ⟨(some 23), .load1 (.tmp 22), none, 0, false⟩,
 ⟨(some 24), .fieldAddr 1 (.tmp 3), none, 0, false⟩,
 ⟨(some 25), .load1 (.tmp 24), none, 0, false⟩,
 ⟨(some 36), .build [(.int .u64 0), (.int .u32 0), (.slice none 0 0)] [(0, 1, (.tmp 23)), (1, 1, (.tmp 25)), (2, 1, (.tmp 35))], none, 2, false⟩,
 ⟨none, .store 3 (.tmp 4) (.tmp 36), none, 2, true⟩,
 ⟨(some 5), .move (.const (.int .i64 0)), none, 3, false⟩])
 .ret)))))⟩

def L196 : LFunc := ⟨7, [.tmp 2],
 (.seq (.region [⟨(some 2), .move (.const (.int .i64 0)), none, 0, false⟩])
 (.seq (.region [⟨(some 3), .move (.tmp 0), none, 0, false⟩,
 ⟨(some 4), .bin .rem (.tmp 3) (.const (.int .u64 2)), none, 0, false⟩,
 ⟨(some 5), .conv (.int .i64) (.tmp 4), none, 0, false⟩,
 ⟨(some 6), .bin .mul (.tmp 5) (.const (.int .i64 16)), none, 0, false⟩,
 ⟨(some 2), .move (.tmp 6), none, 0, false⟩])
 .ret))⟩

def L197 : LFunc := ⟨14, [.tmp 2],
 (.seq (.region [⟨(some 2), .move (.const (.int .i64 0)), none, 0, false⟩])
 (.seq (.seq (.region [⟨(some 5), .move (.tmp 0), none, 0, false⟩,
 ⟨(some 6), .len false (.tmp 5), none, 0, false⟩,
 ⟨(some 7), .move (.const (.int .i64 0)), none, 0, false⟩])
 (.block 0 (.loop (.seq (.region [⟨(some 8), .bin .lss (.tmp 7) (.tmp 6), none, 0, false⟩])
 (.seq (.cond (.tmp 8) .skip
 (.exit 0))
 (.seq (.block 1 (.seq (.region [⟨(some 9), .indexAddr 1 (.tmp 5) (.tmp 7), none, 0, false⟩,
 ⟨(some 10), .load1 (.tmp 9), none, 0, false⟩,
 ⟨(some 4), .move (.tmp 10), none, 0, false⟩])
 (.seq (.region [⟨(some 11), .move (.tmp 4), none, 0, false⟩,
 ⟨(some 12), .bin .gtr (.tmp 11) (.const (.int .u64 281474976710656)), none, 0, false⟩])
 (.cond (.tmp 12) (.seq (.region [⟨(some 2), .move (.const (.int .i64 181)), none, 0, false⟩])
 .ret)
 .skip))))
 (.region [⟨(some 13), .bin .add (.tmp 7) (.const (.int .i64 1)), none, 0, false⟩,
 ⟨(some 7), .move (.tmp 13), none, 0, false⟩])))))))
 (.seq (.region [⟨(some 2), .move (.const (.int .i64 0)), none, 0, false⟩])
 .ret)))⟩

def L198 : LFunc := ⟨20, [.tmp 2],
 (.seq (.region [⟨(some 1), .box 5 32 (.tmp 0), none, 0, false⟩,
 ⟨(some 2), .move (.const (.bool false)), none, 0, false⟩])
 (.seq (.draw [⟨(some 3), .fieldAddr 4 (.tmp 1), none, 0, false⟩,
 ⟨(some 4), .load1 (.tmp 3), none, 0, false⟩,
 ⟨(some 5), .bin .geq (.tmp 4) (.const (.int .i64 0)), none, 0, false⟩,
 ⟨(some 6), .move (.tmp 5), none, 0, false⟩,
 ⟨(some 7), .fieldAddr 4 (.tmp 1), (some (6, true)), 0, false⟩,
 ⟨(some 8), .load1 (.tmp 7), (some (6, true)), 0, false⟩,
 ⟨(some 9), .bin .leq (.tmp 8) (.const (.int .i64 32)), (some (6, true)), 0, false⟩,
 ⟨(some 10), .pick (.tmp 6) (.tmp 9) (.const (.bool false)), none, 0, false⟩,
 ⟨(some 11), .move (.tmp 10), none, 0, false⟩,
 ⟨(some 12), .fieldAddr 0 (.tmp 1), (some (11, true)), 0, false⟩,
 ⟨(some 13), .loadN 4 (.tmp 12), (some (11, true)), 0, false⟩,
 ⟨(some 14), .fieldAddr 4 (.tmp 1), (some (11, true)), 0, false⟩,
 ⟨(some 15), .load1 (.tmp 14), (some (11, true)), 0, false⟩,
 ⟨(some 16), .call (.func 114) [(.tmp 13), (.tmp 15)], (some (11, true)), 0, true⟩,
 ⟨(some 17), .loadN 5 (.tmp 1), (some (11, true)), 0, false⟩,
 ⟨(some 18), .eq false (.agg [(0, .n), (1, .n), (2, .n), (3, .n), (4, .n)]) (.tmp 16) (.tmp 17), (some (11, true)), 1, false⟩,
 ⟨(some 19), .pick (.tmp 11) (.tmp 18) (.const (.bool false)), none, 1, false⟩,
 ⟨(some 2), .move (.tmp 19), none, 1, false⟩])
 .ret))⟩

def L199 : LFunc := ⟨51, [.tmp 4, .tmp 5],
 (.seq (.region [⟨(some 4), .move (.const (.int .u64 0)), none, 0, false⟩,
 ⟨(some 5), .move (.const (.int .u64 0)), none, 0, false⟩])
 (.seq (.region [⟨(some 14), .move (.tmp 0), none, 0, false⟩,
 ⟨(some 15), .bin .and (.tmp 14) (.const (.int .u64 4294967295)), none, 0, false⟩,
 ⟨(some 6), .move (.tmp 15), none, 0, false⟩])
 (.seq (.region [⟨(some 16), .move (.tmp 0), none, 0, false⟩,
 ⟨(some 17), .bin .shr (.tmp 16) (.const (.int .u64 32)), none, 0, false⟩,
 ⟨(some 7), .move (.tmp 17), none, 0, false⟩])
 (.seq (.region [⟨(some 18), .move (.tmp 1), none, 0, false⟩,
 ⟨(some 19), .bin .and (.tmp 18) (.const (.int .u64 4294967295)), none, 0, false⟩,
 ⟨(some 8), .move (.tmp 19), none, 0, false⟩])
 (.seq (.region [⟨(some 20), .move (.tmp 1), none, 0, false⟩,
 ⟨(some 21), .bin .shr (.tmp 20) (.const (.int .u64 32)), none, 0, false⟩,
 ⟨(some 9), .move (.tmp 21), none, 0, false⟩])
 (.seq (.region [⟨(some 22), .move (.tmp 6), none, 0, false⟩,
 ⟨(some 23), .move (.tmp 8), none, 0, false⟩,
 ⟨(some 24), .bin .mul (.tmp 22) (.tmp 23), none, 0, false⟩,
 ⟨(some 10), .move (.tmp 24), none, 0, false⟩])
 (.seq (.region [⟨(some 25), .move (.tmp 7), none, 0, false⟩,
 ⟨(some 26), .move (.tmp 8), none, 0, false⟩,
 ⟨(some 27), .bin .mul (.tmp 25) (.tmp 26), none, 0, false⟩,
 ⟨(some 28), .move (.tmp 10), none, 0, false⟩,
 ⟨(some 29), .bin .shr (.tmp 28) (.const (.int .u64 32)), none, 0, false⟩,
 ⟨(some 30), .bin .add (.tmp 27) (.tmp 29), none, 0, false⟩,
 ⟨(some 11), .move (.tmp 30), none, 0, false⟩])
 (.seq (.region [⟨(some 31), .move (.tmp 11), none, 0, false⟩,
 ⟨(some 32), .bin .and (.tmp 31) (.const (.int .u64 4294967295)), none, 0, false⟩,
 ⟨(some 12), .move (.tmp 32), none, 0, false⟩])
 (.seq (.region [⟨(some 33), .move (.tmp 11), none, 0, false⟩,
 ⟨(some 34), .bin .shr (.tmp 33) (.const (.int .u64 32)), none, 0, false⟩,
 ⟨(some 13), .move (.tmp 34), none, 0, false⟩])
 (.seq (.region [⟨(some 35), .move (.tmp 12), none, 0, false⟩,
 ⟨(some 36), .move (.tmp 6), none, 0, false⟩,
 ⟨(some 37), .move (.tmp 9), none, 0, false⟩,
 ⟨(some 38), .bin .mul (.tmp 36) (.tmp 37), none, 0, false⟩,
 ⟨(some 39), .bin .add (.tmp 35) (.tmp 38), none, 0, false⟩,
 ⟨(some 12), .move (.tmp 39), none, 0, false⟩])
 (.seq (.region [⟨(some 40), .move (.tmp 7), none, 0, false⟩,
 ⟨(some 41), .move (.tmp 9), none, 0, false⟩,
 ⟨(some 42), .bin .mul (.tmp 40) (.tmp 41), none, 0, false⟩,
 ⟨(some 43), .move (.tmp 13), none, 0, false⟩,
 ⟨(some 44), .bin .add (.tmp 42) (.tmp 43), none, 0, false⟩,
 ⟨(some 45), .move (.tmp 12), none, 0, false⟩,
 ⟨(some 46), .bin .shr (.tmp 45) (.const (.int .u64 32)), none, 0, false⟩,
 ⟨(some 47), .bin .add (.tmp 44) (.tmp 46), none, 0, false⟩,
 ⟨(some 4), .move (.tmp 47), none, 0, false⟩])
 (.seq (.region [⟨(some 48), .move (.tmp 0), none, 0, false⟩,
 ⟨(some 49), .move (.tmp 1), none, 0, false⟩,
 ⟨(some 50), .bin .mul (.tmp 48) (.tmp 49), none, 0, false⟩,
 ⟨(some 5), .move (.tmp 50), none, 0, false⟩])
 .ret))))))))))))⟩

def L200 : LFunc := ⟨50, [.tmp 2],
 (.seq (.region [⟨(some 2), .move (.const (.int .i64 0)), none, 0, false⟩])
 (.seq (.seq (.region [⟨(some 6), .move (.tmp 0), none, 0, false⟩,
 ⟨(some 7), .len false (.tmp 6), none, 0, false⟩,
 ⟨(some 8), .bin .gtr (.tmp 7) (.const (.int .i64 8)), none, 0, false⟩])
 (.cond (.tmp 8) (.seq (.region [⟨(some 2), .move (.const (.int .i64 111)), none, 0, false⟩])
 .ret)
 .skip))
 (.seq (.region [⟨(some 9), .mkMap, none, 0, false⟩,
 ⟨(some 3), .move (.tmp 9), none, 0, false⟩])
 (.seq (.seq (.region [⟨(some 10), .move (.tmp 0), none, 0, false⟩,
 ⟨(some 11), .len false (.tmp 10), none, 0, false⟩,
 ⟨(some 12), .move (.const (.int .i64 0)), none, 0, false⟩])
 (.block 0 (.loop (.seq (.region [⟨(some 13), .bin .lss (.tmp 12) (.tmp 11), none, 0, false⟩])
 (.seq (.cond (.tmp 13) .skip
 (.exit 0))
 (.seq (.block 1 (.seq (.region [⟨(some 14), .move (.tmp 12), none, 0, false⟩,
 ⟨(some 15), .indexAddr 13 (.tmp 10) (.tmp 12), none, 0, false⟩,
 ⟨(some 16), .loadN 13 (.tmp 15), none, 0, false⟩,
 ⟨(some 5), .alloc [(.int .i64 0), (.int .u8 0), (.int .u8 0), (.int .u8 0), (.int .u8 0), (.int .i64 0), (.int .u64 0), (.int .u64 0), (.int .u64 0), (.int .u64 0), (.int .u64 0), (.int .u64 0), (.int .u64 0)] 34, none, 0, false⟩,
 ⟨(some 4), .move (.tmp 14), none, 0, false⟩,
 ⟨none, .store 13 (.tmp 5) (.tmp 16), none, 0, false⟩])
 (.seq (.draw [⟨(some 17), .move (.tmp 3), none, 0, false⟩,
 ⟨(some 18), .fieldAddr 1 (.tmp 5), none, 0, false⟩,
 ⟨(some 19), .loadN 5 (.tmp 18), none, 0, false⟩,
 ⟨(some 22), .mapEntry (.agg 5 [(0, .n), (1, .n), (2, .n), (3, .n), (4, .n)]) (.int .i64 0) (.tmp 17) (.tmp 19), none, 0, true⟩,
 ⟨(some 20), .lookup (.agg 5 [(0, .n), (1, .n), (2, .n), (3, .n), (4, .n)]) (.int .i64 0) false (.tmp 17) (.tmp 19), none, 0, false⟩,
 ⟨(some 21), .bin .add (.tmp 20) (.const (.int .i64 1)), none, 0, false⟩,
 ⟨(some 23), .extract (.tmp 22) 1, none, 1, false⟩,
 ⟨none, .entryStore (.tmp 17) (.tmp 23) (.tmp 21), none, 1, true⟩])
 (.seq (.draw [⟨(some 24), .loadN 13 (.tmp 5), none, 0, false⟩,
 ⟨(some 25), .call (.func 188) [(.tmp 24)], none, 0, true⟩,
 ⟨(some 26), .un .not (.tmp 25), none, 1, false⟩,
 ⟨(some 27), .move (.tmp 26), none, 1, false⟩,
 ⟨(some 28), .move (.tmp 3), (some (27, false)), 1, false⟩,
 ⟨(some 29), .fieldAddr 1 (.tmp 5), (some (27, false)), 1, false⟩,
 ⟨(some 30), .loadN 5 (.tmp 29), (some (27, false)), 1, false⟩,
 ⟨(some 31), .lookup (.agg 5 [(0, .n), (1, .n), (2, .n), (3, .n), (4, .n)]) (.int .i64 0) false (.tmp 28) (.tmp 30), (some (27, false)), 1, false⟩,
 ⟨(some 32), .bin .gtr (.tmp 31) (.const (.int .i64 1)), (some (27, false)), 1, false⟩,
 ⟨(some 33), .pick (.tmp 27) (.const (.bool true)) (.tmp 32), none, 1, false⟩,
 ⟨(some 34), .move (.tmp 33), none, 1, false⟩,
 ⟨(some 35), .move (.tmp 4), (some (34, false)), 1, false⟩,
 ⟨(some 36), .bin .gtr (.tmp 35) (.const (.int .i64 0)), (some (34, false)), 1, false⟩,
 ⟨(some 37), .move (.tmp 36), (some (34, false)), 1, false⟩,
 ⟨(some 38), .fieldAddr 0 (.tmp 5), (some (37, true)), 1, false⟩,
 ⟨(some 39), .load1 (.tmp 38), (some (37, true)), 1, false⟩,
 ⟨(some 40), .move (.tmp 0), (some (37, true)), 1, false⟩,
 ⟨(some 41), .move (.tmp 4), (some (37, true)), 1, false⟩,
 ⟨(some 42), .bin .sub (.tmp 41) (.const (.int .i64 1)), (some (37, true)), 1, false⟩,
 ⟨(some 43), .indexAddr 13 (.tmp 40) (.tmp 42), (some (37, true)), 1, false⟩,
 ⟨(some 44), .fieldAddr 0 (.tmp 43), (some (37, true)), 1, false⟩,
 ⟨(some 45), .load1 (.tmp 44), (some (37, true)), 1, false⟩,
 ⟨(some 46), .bin .leq (.tmp 39) (.tmp 45), (some (37, true)), 1, false⟩,
 ⟨(some 47), .pick (.tmp 37) (.tmp 46) (.const (.bool false)), (some (34, false)), 1, false⟩,
 ⟨(some 48), .pick (.tmp 34) (.const (.bool true)) (.tmp 47), none, 1, false⟩])
 (.cond (.tmp 48) (.seq (.region [⟨(some 2), .move (.const (.int .i64 111)), none, 0, false⟩])
 .ret)
 .skip)))))
 (.region [⟨(some 49), .bin .add (.tmp 12) (.const (.int .i64 1)), none, 0, false⟩,
 ⟨(some 12), .move (.tmp 49), none, 0, false⟩])))))))
 (.seq (.region [⟨(some 2), .move (.const (.int .i64 0)), none, 0, false⟩])
 .ret)))))⟩

def L201 : LFunc := ⟨19, [.tmp 2],
 (.seq (.region [⟨(some 2), .move (.const (.slice none 0 0)), none, 0, false⟩])
 (.seq (.region [⟨(some 3), .move (.const (.slice none 0 0)), none, 0, false⟩])
 (.seq (.seq (.region [⟨(some 6), .move (.tmp 0), none, 0, false⟩,
 ⟨(some 7), .len false (.tmp 6), none, 0, false⟩,
 ⟨(some 8), .move (.const (.int .i64 0)), none, 0, false⟩])
 (.block 0 (.loop (.seq (.region [⟨(some 9), .bin .lss (.tmp 8) (.tmp 7), none, 0, false⟩])
 (.seq (.cond (.tmp 9) .skip
 (.exit 0))
 (.seq (.block 1 (.seq (.region [⟨(some 10), .indexAddr 14 (.tmp 6) (.tmp 8), none, 0, false⟩,
 ⟨(some 11), .loadN 14 (.tmp 10), none, 0, false⟩,
 ⟨(some 5), .alloc [(.int .i64 0), (.int .u8 0), (.int .u8 0), (.int .u8 0), (.int .u8 0), (.int .i64 0), (.int .u64 0), (.int .u64 0), (.int .u64 0), (.int .u64 0), (.int .u64 0), (.int .u64 0), (.int .u64 0), (.int .u64 0)] 185, none, 0, false⟩,
 ⟨none, .store 14 (.tmp 5) (.tmp 11), none, 0, false⟩])
 (.region [⟨(some 12), .move (.tmp 3), none, 0, false⟩,
 ⟨(some 13), .fieldAddr 0 (.tmp 5), none, 0, false⟩,
 ⟨(some 14), .loadN 13 (.tmp 13), none, 0, false⟩,
 ⟨(some 15), .buildSlice 1 13 34 [(.int .i64 0), (.int .u8 0), (.int .u8 0), (.int .u8 0), (.int .u8 0), (.int .i64 0), (.int .u64 0), (.int .u64 0), (.int .u64 0), (.int .u64 0), (.int .u64 0), (.int .u64 0), (.int .u64 0)] [(0, 13, (.tmp 14))], none, 0, false⟩,
 ⟨(some 16), .append 13 80 34 [(.int .i64 0), (.int .u8 0), (.int .u8 0), (.int .u8 0), (.int .u8 0), (.int .i64 0), (.int .u64 0), (.int .u64 0), (.int .u64 0), (.int .u64 0), (.int .u64 0), (.int .u64 0), (.int .u64 0)] false (.tmp 12) (.tmp 15), none, 0, false⟩,
 ⟨(some 3), .move (.tmp 16), none, 0, false⟩])))
 (.region [⟨(some 17), .bin .add (.tmp 8) (.const (.int .i64 1)), none, 0, false⟩,
 ⟨(some 8), .move (.tmp 17), none, 0, false⟩])))))))
 (.seq (.region [⟨(some 18), .move (.tmp 3), none, 0, false⟩,
 ⟨(some 2), .move (.tmp 18), none, 0, false⟩])
 .ret))))⟩

def L202 : LFunc := ⟨9, [.tmp 4],
 (.seq (.region [⟨(some 4), .move (.const (.bool false)), none, 0, false⟩])
 (.seq (.region [⟨(some 5), .move (.tmp 0), none, 0, false⟩,
 ⟨(some 6), .move (.tmp 1), none, 0, false⟩,
 ⟨(some 7), .call (.func 236) [(.tmp 5), (.tmp 6)], none, 0, false⟩,
 ⟨(some 8), .bin .geq (.tmp 7) (.const (.int .i64 0)), none, 0, false⟩,
 ⟨(some 4), .move (.tmp 8), none, 0, false⟩])
 .ret))⟩

def L203 : LFunc := ⟨6, [.tmp 2],
 (.seq (.region [⟨(some 1), .box 14 185 (.tmp 0), none, 0, false⟩,
 ⟨(some 2), .move (.const (.bool false)), none, 0, false⟩])
 (.seq (.region [⟨(some 3), .fieldAddr 13 (.tmp 1), none, 0, false⟩,
 ⟨(some 4), .load1 (.tmp 3), none, 0, false⟩,
 ⟨(some 5), .bin .gtr (.tmp 4) (.const (.int .u64 281474976710656)), none, 0, false⟩,
 ⟨(some 2), .move (.tmp 5), none, 0, false⟩])
 .ret))⟩

def L204 : LFunc := ⟨38, [.tmp 4],
 (.seq (.region [⟨(some 2), .box 1 157 (.tmp 0), none, 0, false⟩,
 ⟨(some 4), .move (.const (.bool false)), none, 0, false⟩])
 (.seq (.seq (.region [⟨(some 7), .load1 (.tmp 2), none, 0, false⟩,
 ⟨(some 8), .len false (.tmp 7), none, 0, false⟩,
 ⟨(some 9), .bin .gtr (.tmp 8) (.const (.int .i64 8)), none, 0, false⟩])
 (.cond (.tmp 9) (.seq (.region [⟨(some 4), .move (.const (.bool false)), none, 0, false⟩])
 .ret)
 .skip))
 (.seq (.seq (.region [⟨(some 10), .load1 (.tmp 2), none, 0, false⟩,
 ⟨(some 11), .len false (.tmp 10), none, 0, false⟩,
 ⟨(some 12), .move (.const (.int .i64 0)), none, 0, false⟩])
 (.block 0 (.loop (.seq (.region [⟨(some 13), .bin .lss (.tmp 12) (.tmp 11), none, 0, false⟩])
 (.seq (.cond (.tmp 13) .skip
 (.exit 0))
 (.seq (.block 1 (.seq (.region [⟨(some 14), .move (.tmp 12), none, 0, false⟩,
 ⟨(some 15), .indexAddr 1 (.tmp 10) (.tmp 12), none, 0, false⟩,
 ⟨(some 16), .load1 (.tmp 15), none, 0, false⟩,
 ⟨(some 5), .move (.tmp 14), none, 0, false⟩,
 ⟨(some 6), .move (.tmp 16), none, 0, false⟩])
 (.seq (.region [⟨(some 17), .move (.tmp 6), none, 0, false⟩,
 ⟨(some 18), .call (.func 206) [(.tmp 17)], none, 0, false⟩,
 ⟨(some 19), .un .not (.tmp 18), none, 0, false⟩,
 ⟨(some 20), .move (.tmp 19), none, 0, false⟩,
 ⟨(some 21), .move (.tmp 5), (some (20, false)), 0, false⟩,
 ⟨(some 22), .bin .gtr (.tmp 21) (.const (.int .i64 0)), (some (20, false)), 0, false⟩,
 ⟨(some 23), .move (.tmp 22), (some (20, false)), 0, false⟩,
 ⟨(some 24), .move (.tmp 6), (some (23, true)), 0, false⟩,
 ⟨(some 25), .load1 (.tmp 2), (some (23, true)), 0, false⟩,
 ⟨(some 26), .move (.tmp 5), (some (23, true)), 0, false⟩,
 ⟨(some 27), .bin .sub (.tmp 26) (.const (.int .i64 1)), (some (23, true)), 0, false⟩,
 ⟨(some 28), .indexAddr 1 (.tmp 25) (.tmp 27), (some (23, true)), 0, false⟩,
 ⟨(some 29), .load1 (.tmp 28), (some (23, true)), 0, false⟩,
 ⟨(some 30), .bin .leq (.tmp 24) (.tmp 29), (some (23, true)), 0, false⟩,
 ⟨(some 31), .pick (.tmp 23) (.tmp 30) (.const (.bool false)), (some (20, false)), 0, false⟩,
 ⟨(some 32), .pick (.tmp 20) (.const (.bool true)) (.tmp 31), none, 0, false⟩])
 (.cond (.tmp 32) (.seq (.region [⟨(some 4), .move (.const (.bool false)), none, 0, false⟩])
 .ret)
 .skip))))
 (.region [⟨(some 33), .bin .add (.tmp 12) (.const (.int .i64 1)), none, 0, false⟩,
 ⟨(some 12), .move (.tmp 33), none, 0, false⟩])))))))
 (.seq (.region [⟨(some 34), .move (.tmp 1), none, 0, false⟩,
 ⟨(some 35), .mkFunc (.func 238) [] [(.tmp 2)], none, 0, false⟩,
 ⟨(some 36), .call (.func 237) [(.tmp 34), (.tmp 35)], none, 0, false⟩,
 ⟨(some 37), .un .not (.tmp 36), none, 0, false⟩,
 ⟨(some 4), .move (.tmp 37), none, 0, false⟩])
 .ret))))⟩

def L205 : LFunc := ⟨45, [.tmp 4],
 (.seq (.region [⟨(some 2), .box 6 159 (.tmp 0), none, 0, false⟩,
 ⟨(some 3), .box 6 159 (.tmp 1), none, 0, false⟩,
 ⟨(some 4), .move (.const (.bool false)), none, 0, false⟩])
 (.seq (.region [⟨(some 5), .fieldAddr 0 (.tmp 2), none, 0, false⟩,
 ⟨(some 6), .load1 (.tmp 5), none, 0, false⟩,
 ⟨(some 7), .fieldAddr 0 (.tmp 3), none, 0, false⟩,
 ⟨(some 8), .load1 (.tmp 7), none, 0, false⟩,
 ⟨(some 9), .bin .eql (.tmp 6) (.tmp 8), none, 0, false⟩,
 ⟨(some 10), .move (.tmp 9), none, 0, false⟩,
 ⟨(some 11), .fieldAddr 1 (.tmp 2), (some (10, true)), 0, false⟩,
 ⟨(some 12), .load1 (.tmp 11), (some (10, true)), 0, false⟩,
 ⟨(some 13), .fieldAddr 1 (.tmp 3), (some (10, true)), 0, false⟩,
 ⟨(some 14), .load1 (.tmp 13), (some (10, true)), 0, false⟩,
 ⟨(some 15), .bin .eql (.tmp 12) (.tmp 14), (some (10, true)), 0, false⟩,
 ⟨(some 16), .pick (.tmp 10) (.tmp 15) (.const (.bool false)), none, 0, false⟩,
 ⟨(some 17), .move (.tmp 16), none, 0, false⟩,
 ⟨(some 18), .fieldAddr 4 (.tmp 2), (some (17, true)), 0, false⟩,
 ⟨(some 19), .load1 (.tmp 18), (some (17, true)), 0, false⟩,
 ⟨(some 20), .fieldAddr 4 (.tmp 3), (some (17, true)), 0, false⟩,
 ⟨(some 21), .load1 (.tmp 20), (some (17, true)), 0, false⟩,
 ⟨(some 22), .bin .eql (.tmp 19) (.tmp 21), (some (17, true)), 0, false⟩,
 ⟨(some 23), .pick (.tmp 17) (.tmp 22) (.const (.bool false)), none, 0, false⟩,
 ⟨(some 24), .move (.tmp 23), none, 0, false⟩,
 ⟨(some 25), .fieldAddr 5 (.tmp 2), (some (24, true)), 0, false⟩,
 ⟨(some 26), .load1 (.tmp 25), (some (24, true)), 0, false⟩,
 ⟨(some 27), .fieldAddr 5 (.tmp 3), (some (24, true)), 0, false⟩,
 ⟨(some 28), .load1 (.tmp 27), (some (24, true)), 0, false⟩,
 ⟨(some 29), .bin .eql (.tmp 26) (.tmp 28), (some (24, true)), 0, false⟩,
 ⟨(some 30), .pick (.tmp 24) (.tmp 29) (.const (.bool false)), none, 0, false⟩,
 ⟨(some 31), .move (.tmp 30), none, 0, false⟩,
 ⟨(some 32), .fieldAddr 2 (.tmp 2), (some (31, true)), 0, false⟩,
 ⟨(some 33), .load1 (.tmp 32), (some (31, true)), 0, false⟩,
 ⟨(some 34), .fieldAddr 2 (.tmp 3), (some (31, true)), 0, false⟩,
 ⟨(some 35), .load1 (.tmp 34), (some (31, true)), 0, false⟩,
 ⟨(some 36), .call (.func 239) [(.tmp 33), (.tmp 35)], (some (31, true)), 0, false⟩,
 ⟨(some 37), .pick (.tmp 31) (.tmp 36) (.const (.bool false)), none, 0, false⟩,
 ⟨(some 38), .move (.tmp 37), none, 0, false⟩,
 ⟨(some 39), .fieldAddr 3 (.tmp 2), (some (38, true)), 0, false⟩,
 ⟨(some 40), .load1 (.tmp 39), (some (38, true)), 0, false⟩,
 ⟨(some 41), .fieldAddr 3 (.tmp 3), (some (38, true)), 0, false⟩,
 ⟨(some 42), .load1 (.tmp 41), (some (38, true)), 0, false⟩,
 ⟨(some 43), .call (.func 240) [(.tmp 40), (.tmp 42)], (some (38, true)), 0, false⟩,
 ⟨(some 44), .pick (.tmp 38) (.tmp 43) (.const (.bool false)), none, 0, false⟩,
 ⟨(some 4), .move (.tmp 44), none, 0, false⟩])
 .ret))⟩

def L206 : LFunc := ⟨9, [.tmp 2],
 (.seq (.region [⟨(some 2), .move (.const (.bool false)), none, 0, false⟩])
 (.seq (.region [⟨(some 3), .move (.tmp 0), none, 0, false⟩,
 ⟨(some 4), .bin .geq (.tmp 3) (.const (.int .i64 1)), none, 0, false⟩,
 ⟨(some 5), .move (.tmp 4), none, 0, false⟩,
 ⟨(some 6), .move (.tmp 0), (some (5, true)), 0, false⟩,
 ⟨(some 7), .bin .leq (.tmp 6) (.const (.int .i64 255)), (some (5, true)), 0, false⟩,
 ⟨(some 8), .pick (.tmp 5) (.tmp 7) (.const (.bool false)), none, 0, false⟩,
 ⟨(some 2), .move (.tmp 8), none, 0, false⟩])
 .ret))⟩

def L207 : LFunc := ⟨9, [.tmp 2],
 (.seq (.region [⟨(some 2), .move (.const (.bool false)), none, 0, false⟩])
 (.seq (.region [⟨(some 3), .move (.tmp 0), none, 0, false⟩,
 ⟨(some 4), .bin .geq (.tmp 3) (.const (.int .u64 1)), none, 0, false⟩,
 ⟨(some 5), .move (.tmp 4), none, 0, false⟩,
 ⟨(some 6), .move (.tmp 0), (some (5, true)), 0, false⟩,
 ⟨(some 7), .bin .leq (.tmp 6) (.const (.int .u64 281474976710656)), (some (5, true)), 0, false⟩,
 ⟨(some 8), .pick (.tmp 5) (.tmp 7) (.const (.bool false)), none, 0, false⟩,
 ⟨(some 2), .move (.tmp 8), none, 0, false⟩])
 .ret))⟩

def L208 : LFunc := ⟨8, [.tmp 4],
 (.seq (.region [⟨(some 3), .box 1 3 (.tmp 1), none, 0, false⟩,
 ⟨(some 4), .move (.const (.int .i64 0)), none, 0, false⟩])
 (.seq (.region [⟨(some 5), .move (.tmp 0), none, 0, false⟩,
 ⟨(some 6), .mkFunc (.func 241) [] [(.tmp 3)], none, 0, false⟩,
 ⟨(some 7), .call (.func 236) [(.tmp 5), (.tmp 6)], none, 0, false⟩,
 ⟨(some 4), .move (.tmp 7), none, 0, false⟩])
 .ret))⟩

def L209 : LFunc := ⟨33, [.tmp 6],
 (.seq (.region [⟨(some 6), .move (.const (.slice none 0 0)), none, 0, false⟩])
 (.seq (.region [⟨(some 8), .move (.tmp 0), none, 0, false⟩,
 ⟨(some 9), .move (.tmp 1), none, 0, false⟩,
 ⟨(some 10), .move (.tmp 2), none, 0, false⟩,
 ⟨(some 11), .move (.tmp 0), none, 0, false⟩,
 ⟨(some 12), .len false (.tmp 11), none, 0, false⟩,
 ⟨(some 13), .slice 14 (.tmp 8) (some (.tmp 9)) (some (.tmp 10)) (some (.tmp 12)), none, 0, false⟩])
 (.seq (.seq (.region [⟨(some 14), .move (.tmp 1), none, 0, false⟩,
 ⟨(some 15), .move (.tmp 2), none, 0, false⟩,
 ⟨(some 16), .bin .eql (.tmp 14) (.tmp 15), none, 0, false⟩])
 (.cond (.tmp 16) (.seq (.region [⟨(some 17), .move (.tmp 0), none, 0, false⟩,
 ⟨(some 6), .move (.tmp 17), none, 0, false⟩])
 .ret)
 .skip))
 (.seq (.region [⟨(some 18), .move (.tmp 0), none, 0, false⟩,
 ⟨(some 19), .len false (.tmp 18), none, 0, false⟩,
 ⟨(some 7), .move (.tmp 19), none, 0, false⟩])
 (.seq (.draw [⟨(some 20), .move (.tmp 0), none, 0, false⟩,
 ⟨(some 21), .move (.tmp 1), none, 0, false⟩,
 ⟨(some 22), .slice 14 (.tmp 20) none (some (.tmp 21)) none, none, 0, false⟩,
 ⟨(some 23), .move (.tmp 0), none, 0, false⟩,
 ⟨(some 24), .move (.tmp 2), none, 0, false⟩,
 ⟨(some 25), .slice 14 (.tmp 23) (some (.tmp 24)) none none, none, 0, false⟩,
 ⟨(some 26), .append 14 88 185 [(.int .i64 0), (.int .u8 0), (.int .u8 0), (.int .u8 0), (.int .u8 0), (.int .i64 0), (.int .u64 0), (.int .u64 0), (.int .u64 0), (.int .u64 0), (.int .u64 0), (.int .u64 0), (.int .u64 0), (.int .u64 0)] false (.tmp 22) (.tmp 25), none, 0, true⟩,
 ⟨(some 0), .move (.tmp 26), none, 1, false⟩])
 (.seq (.region [⟨(some 27), .move (.tmp 0), none, 0, false⟩,
 ⟨(some 28), .move (.tmp 0), none, 0, false⟩,
 ⟨(some 29), .len false (.tmp 28), none, 0, false⟩,
 ⟨(some 30), .move (.tmp 7), none, 0, false⟩,
 ⟨(some 31), .slice 14 (.tmp 27) (some (.tmp 29)) (some (.tmp 30)) none, none, 0, false⟩,
 ⟨none, .clearSlice [(.int .i64 0), (.int .u8 0), (.int .u8 0), (.int .u8 0), (.int .u8 0), (.int .i64 0), (.int .u64 0), (.int .u64 0), (.int .u64 0), (.int .u64 0), (.int .u64 0), (.int .u64 0), (.int .u64 0), (.int .u64 0)] (.tmp 31), none, 0, false⟩])
 (.seq (.region [⟨(some 32), .move (.tmp 0), none, 0, false⟩,
 ⟨(some 6), .move (.tmp 32), none, 0, false⟩])
 .ret)))))))⟩

def L210 : LFunc := ⟨14, [],
 (.seq (.region [⟨(some 5), .move (.tmp 0), none, 0, false⟩,
 ⟨(some 6), .len false (.tmp 5), none, 0, false⟩,
 ⟨(some 4), .move (.tmp 6), none, 0, false⟩])
 (.region [⟨(some 7), .move (.tmp 0), none, 0, false⟩,
 ⟨(some 8), .move (.tmp 4), none, 0, false⟩,
 ⟨(some 9), .move (.tmp 4), none, 0, false⟩,
 ⟨(some 10), .conv (.int .u64) (.tmp 9), none, 0, false⟩,
 ⟨(some 11), .call (.func 243) [(.tmp 10)], none, 0, false⟩,
 ⟨(some 12), .move (.tmp 1), none, 0, false⟩,
 ⟨(some 13), .call (.func 242) [(.tmp 7), (.const (.int .i64 0)), (.tmp 8), (.tmp 11), (.tmp 12)], none, 0, false⟩]))⟩

def L211 : LFunc := ⟨12, [.tmp 4],
 (.seq (.region [⟨(some 2), .box 14 185 (.tmp 0), none, 0, false⟩,
 ⟨(some 3), .box 14 185 (.tmp 1), none, 0, false⟩,
 ⟨(some 4), .move (.const (.int .i64 0)), none, 0, false⟩])
 (.seq (.region [⟨(some 5), .fieldAddr 0 (.tmp 2), none, 0, false⟩,
 ⟨(some 6), .fieldAddr 0 (.tmp 5), none, 0, false⟩,
 ⟨(some 7), .load1 (.tmp 6), none, 0, false⟩,
 ⟨(some 8), .fieldAddr 0 (.tmp 3), none, 0, false⟩,
 ⟨(some 9), .fieldAddr 0 (.tmp 8), none, 0, false⟩,
 ⟨(some 10), .load1 (.tmp 9), none, 0, false⟩,
 ⟨(some 11), .call (.func 212) [(.tmp 7), (.tmp 10)], none, 0, false⟩,
 ⟨(some 4), .move (.tmp 11), none, 0, false⟩])
 .ret))⟩

def L212 : LFunc := ⟨20, [.tmp 4],
 (.seq (.region [⟨(some 4), .move (.const (.int .i64 0)), none, 0, false⟩])
 (.seq (.region [⟨(some 7), .move (.tmp 0), none, 0, false⟩,
 ⟨(some 8), .call (.func 244) [(.tmp 7)], none, 0, false⟩,
 ⟨(some 5), .move (.tmp 8), none, 0, false⟩])
 (.seq (.region [⟨(some 9), .move (.tmp 1), none, 0, false⟩,
 ⟨(some 10), .call (.func 244) [(.tmp 9)], none, 0, false⟩,
 ⟨(some 6), .move (.tmp 10), none, 0, false⟩])
 (.seq (.seq (.region [⟨(some 11), .move (.tmp 5), none, 0, false⟩])
 (.cond (.tmp 11) (.seq (.seq (.region [⟨(some 12), .move (.tmp 6), none, 0, false⟩])
 (.cond (.tmp 12) (.seq (.region [⟨(some 4), .move (.const (.int .i64 0)), none, 0, false⟩])
 .ret)
 .skip))
 (.seq (.region [⟨(some 4), .move (.const (.int .i64 (-1))), none, 0, false⟩])
 .ret))
 .skip))
 (.seq (.seq (.region [⟨(some 13), .move (.tmp 6), none, 0, false⟩])
 (.cond (.tmp 13) (.seq (.region [⟨(some 4), .move (.const (.int .i64 1)), none, 0, false⟩])
 .ret)
 .skip))
 (.seq (.seq (.region [⟨(some 14), .move (.tmp 0), none, 0, false⟩,
 ⟨(some 15), .move (.tmp 1), none, 0, false⟩,
 ⟨(some 16), .bin .lss (.tmp 14) (.tmp 15), none, 0, false⟩])
 (.cond (.tmp 16) (.seq (.region [⟨(some 4), .move (.const (.int .i64 (-1))), none, 0, false⟩])
 .ret)
 .skip))
 (.seq (.seq (.region [⟨(some 17), .move (.tmp 0), none, 0, false⟩,
 ⟨(some 18), .move (.tmp 1), none, 0, false⟩,
 ⟨(some 19), .bin .gtr (.tmp 17) (.tmp 18), none, 0, false⟩])
 (.cond (.tmp 19) (.seq (.region [⟨(some 4), .move (.const (.int .i64 1)), none, 0, false⟩])
 .ret)
 .skip))
 (.seq (.region [⟨(some 4), .move (.const (.int .i64 0)), none, 0, false⟩])
 .ret))))))))⟩

def L213 : LFunc := ⟨15, [.tmp 2],
 (.seq (.region [⟨(some 2), .move (.const (.int .i64 0)), none, 0, false⟩])
 (.seq (.seq (.region [⟨(some 3), .move (.tmp 0), none, 0, false⟩,
 ⟨(some 4), .bin .lss (.tmp 3) (.const (.int .i64 0)), none, 0, false⟩,
 ⟨(some 5), .move (.tmp 4), none, 0, false⟩,
 ⟨(some 6), .move (.tmp 0), (some (5, false)), 0, false⟩,
 ⟨(some 7), .bin .gtr (.tmp 6) (.const (.int .i64 700)), (some (5, false)), 0, false⟩,
 ⟨(some 8), .pick (.tmp 5) (.const (.bool true)) (.tmp 7), none, 0, false⟩])
 (.cond (.tmp 8) (.seq (.region [⟨(some 2), .move (.const (.int .i64 0)), none, 0, false⟩])
 .ret)
 .skip))
 (.seq (.region [⟨(some 9), .move (.tmp 0), none, 0, false⟩,
 ⟨(some 10), .bin .add (.const (.int .i64 14)) (.tmp 9), none, 0, false⟩,
 ⟨(some 11), .bin .add (.tmp 10) (.const (.int .i64 4)), none, 0, false⟩,
 ⟨(some 12), .bin .add (.tmp 11) (.const (.int .i64 64)), none, 0, false⟩,
 ⟨(some 13), .bin .sub (.tmp 12) (.const (.int .i64 1)), none, 0, false⟩,
 ⟨(some 14), .bin .quo (.tmp 13) (.const (.int .i64 64)), none, 0, false⟩,
 ⟨(some 2), .move (.tmp 14), none, 0, false⟩])
 .ret)))⟩

def L214 : LFunc := ⟨10, [.tmp 2],
 (.seq (.region [⟨(some 2), .move (.const (.slice none 0 0)), none, 0, false⟩])
 (.seq (.region [⟨(some 3), .move (.tmp 0), none, 0, false⟩,
 ⟨(some 4), .move (.tmp 0), none, 0, false⟩,
 ⟨(some 5), .buildSlice 1 1 22 [(.slice none 0 0)] [(0, 1, (.tmp 4))], none, 0, false⟩,
 ⟨(some 6), .call (.func 246) [(.tmp 5)], none, 0, false⟩,
 ⟨(some 7), .call (.func 245) [(.tmp 6)], none, 0, false⟩,
 ⟨(some 8), .buildSlice 2 1 22 [(.slice none 0 0), (.slice none 0 0)] [(0, 1, (.tmp 3)), (1, 1, (.tmp 7))], none, 0, false⟩,
 ⟨(some 9), .call (.func 42) [(.tmp 8)], none, 0, false⟩,
 ⟨(some 2), .move (.tmp 9), none, 0, false⟩])
 .ret))⟩

def L215 : LFunc := ⟨21, [.tmp 4],
 (.seq (.region [⟨(some 2), .box 1 26 (.tmp 0), none, 0, false⟩,
 ⟨(some 4), .move (.const (.slice none 0 0)), none, 0, false⟩])
 (.seq (.region [⟨(some 7), .move (.tmp 1), none, 0, false⟩,
 ⟨(some 8), .mkSlice 1 1 5 [(.int .u8 0)] (.tmp 7) (.tmp 7), none, 0, false⟩,
 ⟨(some 5), .alloc [(.slice none 0 0)] 22, none, 0, false⟩,
 ⟨none, .store 1 (.tmp 5) (.tmp 8), none, 0, false⟩])
 (.seq (.seq (.region [⟨(some 9), .load1 (.tmp 5), none, 0, false⟩,
 ⟨(some 10), .call (.func 247) [(.tmp 9)], none, 0, false⟩])
 (.block 0 (.rangeFunc (.tmp 10) [11, 12] (.region [⟨(some 6), .move (.tmp 11), none, 0, false⟩]) (.block 1 (.seq (.region [⟨(some 13), .load1 (.tmp 5), none, 0, false⟩,
 ⟨(some 14), .move (.tmp 6), none, 0, false⟩,
 ⟨(some 15), .load1 (.tmp 2), none, 0, false⟩,
 ⟨(some 16), .conv (.int .u8) (.tmp 15), none, 0, false⟩,
 ⟨(some 17), .indexAddr 1 (.tmp 13) (.tmp 14), none, 0, false⟩,
 ⟨none, .store 1 (.tmp 17) (.tmp 16), none, 0, false⟩])
 (.region [⟨(some 18), .load1 (.tmp 2), none, 0, false⟩,
 ⟨(some 19), .bin .shr (.tmp 18) (.const (.int .u64 8)), none, 0, false⟩,
 ⟨none, .store 1 (.tmp 2) (.tmp 19), none, 0, false⟩]))))))
 (.seq (.region [⟨(some 20), .load1 (.tmp 5), none, 0, false⟩,
 ⟨(some 4), .move (.tmp 20), none, 0, false⟩])
 .ret))))⟩

def L216 : LFunc := ⟨18, [.tmp 4],
 (.seq (.region [⟨(some 4), .move (.const (.int .i64 0)), none, 0, false⟩])
 (.seq (.region [⟨(some 8), .move (.tmp 0), none, 0, false⟩,
 ⟨(some 9), .nilCheck (.tmp 8), none, 0, false⟩,
 ⟨(some 10), .fieldAddr 0 (.tmp 9), none, 0, false⟩,
 ⟨(some 11), .load1 (.tmp 10), none, 0, false⟩,
 ⟨(some 12), .call (.func 107) [(.tmp 11)], none, 0, false⟩,
 ⟨(some 13), .move (.tmp 1), none, 0, false⟩,
 ⟨(some 14), .call (.func 225) [(.tmp 12), (.tmp 13)], none, 0, false⟩,
 ⟨(some 7), .move (.tmp 14), none, 0, false⟩,
 ⟨(some 15), .extract (.tmp 7) 0, none, 0, false⟩,
 ⟨(some 16), .extract (.tmp 7) 1, none, 0, false⟩,
 ⟨(some 5), .move (.tmp 15), none, 0, false⟩,
 ⟨(some 6), .move (.tmp 16), none, 0, false⟩])
 (.seq (.region [⟨(some 17), .move (.tmp 5), none, 0, false⟩,
 ⟨(some 4), .move (.tmp 17), none, 0, false⟩])
 .ret)))⟩

def L217 : LFunc := ⟨31, [.tmp 4, .tmp 5],
 (.seq (.region [⟨(some 4), .move (.const (.int .i64 0)), none, 0, false⟩,
 ⟨(some 5), .move (.const (.int .i64 0)), none, 0, false⟩])
 (.seq (.region [⟨(some 11), .move (.tmp 0), none, 0, false⟩,
 ⟨(some 12), .call (.func 106) [(.tmp 11)], none, 0, false⟩,
 ⟨(some 10), .move (.tmp 12), none, 0, false⟩,
 ⟨(some 13), .extract (.tmp 10) 0, none, 0, false⟩,
 ⟨(some 14), .extract (.tmp 10) 1, none, 0, false⟩,
 ⟨(some 6), .move (.tmp 13), none, 0, false⟩,
 ⟨(some 7), .move (.tmp 14), none, 0, false⟩])
 (.seq (.seq (.region [⟨(some 15), .move (.tmp 1), none, 0, false⟩,
 ⟨(some 16), .len false (.tmp 15), none, 0, false⟩,
 ⟨(some 17), .move (.const (.int .i64 0)), none, 0, false⟩])
 (.block 0 (.loop (.seq (.region [⟨(some 18), .bin .lss (.tmp 17) (.tmp 16), none, 0, false⟩])
 (.seq (.cond (.tmp 18) .skip
 (.exit 0))
 (.seq (.block 1 (.seq (.region [⟨(some 19), .indexAddr 1 (.tmp 15) (.tmp 17), none, 0, false⟩,
 ⟨(some 20), .load1 (.tmp 19), none, 0, false⟩,
 ⟨(some 9), .move (.tmp 20), none, 0, false⟩])
 (.seq (.region [⟨(some 21), .move (.tmp 9), none, 0, false⟩,
 ⟨(some 22), .bin .lss (.tmp 21) (.const (.int .i64 0)), none, 0, false⟩,
 ⟨(some 23), .move (.tmp 22), none, 0, false⟩,
 ⟨(some 24), .move (.tmp 9), (some (23, false)), 0, false⟩,
 ⟨(some 25), .move (.tmp 6), (some (23, false)), 0, false⟩,
 ⟨(some 26), .bin .geq (.tmp 24) (.tmp 25), (some (23, false)), 0, false⟩,
 ⟨(some 27), .pick (.tmp 23) (.const (.bool true)) (.tmp 26), none, 0, false⟩])
 (.cond (.tmp 27) (.region [⟨(some 7), .move (.const (.int .i64 91)), none, 0, false⟩])
 .skip))))
 (.region [⟨(some 28), .bin .add (.tmp 17) (.const (.int .i64 1)), none, 0, false⟩,
 ⟨(some 17), .move (.tmp 28), none, 0, false⟩])))))))
 (.seq (.region [⟨(some 29), .move (.tmp 6), none, 0, false⟩,
 ⟨(some 30), .move (.tmp 7), none, 0, false⟩,
 ⟨(some 4), .move (.tmp 29), none, 0, false⟩,
 ⟨(some 5), .move (.tmp 30), none, 0, false⟩])
 .ret))))⟩

def L218 : LFunc := ⟨16, [.tmp 4],
 (.seq (.region [⟨(some 4), .move (.const (.bool false)), none, 0, false⟩])
 (.seq (.region [⟨(some 5), .move (.tmp 1), none, 0, false⟩,
 ⟨(some 6), .bin .geq (.tmp 5) (.const (.int .i64 0)), none, 0, false⟩,
 ⟨(some 7), .move (.tmp 6), none, 0, false⟩,
 ⟨(some 8), .move (.tmp 1), (some (7, true)), 0, false⟩,
 ⟨(some 9), .move (.tmp 0), (some (7, true)), 0, false⟩,
 ⟨(some 10), .nilCheck (.tmp 9), (some (7, true)), 0, false⟩,
 ⟨(some 11), .fieldAddr 0 (.tmp 10), (some (7, true)), 0, false⟩,
 ⟨(some 12), .load1 (.tmp 11), (some (7, true)), 0, false⟩,
 ⟨(some 13), .len false (.tmp 12), (some (7, true)), 0, false⟩,
 ⟨(some 14), .bin .lss (.tmp 8) (.tmp 13), (some (7, true)), 0, false⟩,
 ⟨(some 15), .pick (.tmp 7) (.tmp 14) (.const (.bool false)), none, 0, false⟩,
 ⟨(some 4), .move (.tmp 15), none, 0, false⟩])
 .ret))⟩

def L219 : LFunc := ⟨30, [.tmp 2],
 (.seq (.region [⟨(some 2), .move (.const (.int .i64 0)), none, 0, false⟩])
 (.seq (.block 0 (.seq (.region [⟨(some 4), .move (.tmp 0), none, 0, false⟩,
 ⟨(some 5), .nilCheck (.tmp 4), none, 0, false⟩,
 ⟨(some 6), .fieldAddr 3 (.tmp 5), none, 0, false⟩,
 ⟨(some 7), .load1 (.tmp 6), none, 0, false⟩,
 ⟨(some 3), .move (.tmp 7), none, 0, false⟩])
 (.cond (.tmp 3) .skip
 (.seq (.region [⟨(some 9), .move (.tmp 0), none, 0, false⟩,
 ⟨(some 10), .nilCheck (.tmp 9), none, 0, false⟩,
 ⟨(some 11), .fieldAddr 2 (.tmp 10), none, 0, false⟩,
 ⟨(some 12), .load1 (.tmp 11), none, 0, false⟩,
 ⟨(some 13), .bin .eql (.tmp 12) (.const (.int .i64 (-1))), none, 0, false⟩,
 ⟨(some 8), .move (.tmp 13), none, 0, false⟩])
 (.cond (.tmp 8) (.seq (.region [⟨(some 2), .move (.const (.int .i64 0)), none, 0, false⟩])
 .ret)
 (.seq (.region [⟨(some 15), .move (.tmp 0), none, 0, false⟩,
 ⟨(some 16), .nilCheck (.tmp 15), none, 0, false⟩,
 ⟨(some 17), .fieldAddr 2 (.tmp 16), none, 0, false⟩,
 ⟨(some 18), .load1 (.tmp 17), none, 0, false⟩,
 ⟨(some 19), .bin .gtr (.tmp 18) (.const (.int .i64 0)), none, 0, false⟩,
 ⟨(some 14), .move (.tmp 19), none, 0, false⟩])
 (.cond (.tmp 14) (.seq (.region [⟨(some 20), .move (.tmp 0), none, 0, false⟩,
 ⟨(some 21), .nilCheck (.tmp 20), none, 0, false⟩,
 ⟨(some 22), .fieldAddr 2 (.tmp 21), none, 0, false⟩,
 ⟨(some 23), .load1 (.tmp 22), none, 0, false⟩,
 ⟨(some 24), .bin .sub (.tmp 23) (.const (.int .i64 1)), none, 0, false⟩,
 ⟨(some 25), .nilCheck (.tmp 20), none, 0, false⟩,
 ⟨(some 26), .fieldAddr 2 (.tmp 25), none, 0, false⟩,
 ⟨none, .store 1 (.tmp 26) (.tmp 24), none, 0, false⟩])
 (.seq (.region [⟨(some 2), .move (.const (.int .i64 0)), none, 0, false⟩])
 .ret))
 .skip)))))))
 (.seq (.region [⟨(some 27), .move (.tmp 0), none, 0, false⟩,
 ⟨(some 28), .nilCheck (.tmp 27), none, 0, false⟩,
 ⟨(some 29), .fieldAddr 3 (.tmp 28), none, 0, false⟩,
 ⟨none, .store 1 (.tmp 29) (.const (.bool true)), none, 0, false⟩])
 (.seq (.region [⟨(some 2), .move (.const (.int .i64 72)), none, 0, false⟩])
 .ret))))⟩

def L220 : LFunc := ⟨3, [.tmp 2],
 (.seq (.region [⟨(some 2), .move (.const (.bool false)), none, 0, false⟩])
 (.seq (.region [⟨(some 2), .move (.const (.bool true)), none, 0, false⟩])
 .ret))⟩

def L221 : LFunc := ⟨53, [.cellN 4 6, .tmp 5],
 (.seq (.region [⟨(some 4), .alloc [(.int .u64 0), (.int .u32 0), (.int .u64 0), (.int .i64 0), (.int .u64 0), (.slice none 0 0)] 181, none, 0, false⟩,
 ⟨(some 5), .move (.const (.bool false)), none, 0, false⟩])
 (.seq (.region [⟨(some 6), .move (.const (.slice none 0 0)), none, 0, false⟩])
 (.seq (.seq (.region [⟨(some 13), .move (.const (.int .i64 0)), none, 0, false⟩])
 (.block 0 (.loop (.seq (.region [⟨(some 14), .bin .lss (.tmp 13) (.const (.int .i64 16)), none, 0, false⟩])
 (.seq (.cond (.tmp 14) .skip
 (.exit 0))
 (.seq (.block 1 (.seq (.region [⟨(some 15), .move (.tmp 13), none, 0, false⟩,
 ⟨(some 7), .move (.tmp 15), none, 0, false⟩])
 (.seq (.region [⟨(some 17), .move (.tmp 0), none, 0, false⟩,
 ⟨(some 18), .move (.tmp 1), none, 0, false⟩,
 ⟨(some 19), .move (.tmp 7), none, 0, false⟩,
 ⟨(some 20), .bin .add (.tmp 18) (.tmp 19), none, 0, false⟩,
 ⟨(some 21), .call (.func 248) [(.tmp 17), (.tmp 20)], none, 0, false⟩,
 ⟨(some 16), .move (.tmp 21), none, 0, false⟩,
 ⟨(some 22), .extract (.tmp 16) 0, none, 0, false⟩,
 ⟨(some 23), .extract (.tmp 16) 1, none, 0, false⟩,
 ⟨(some 8), .alloc [(.int .u8 0), (.int .u8 0), (.int .u8 0), (.int .u8 0), (.int .u8 0), (.int .u8 0), (.int .u8 0), (.int .u8 0), (.int .u8 0), (.int .u8 0), (.int .u8 0), (.int .u8 0), (.int .u8 0), (.int .u8 0), (.int .u8 0), (.int .u8 0), (.int .u8 0), (.int .u8 0), (.int .u8 0), (.int .u8 0), (.int .u8 0), (.int .u8 0), (.int .u8 0), (.int .u8 0), (.int .u8 0), (.int .u8 0), (.int .u8 0), (.int .u8 0), (.int .u8 0), (.int .u8 0), (.int .u8 0), (.int .u8 0), (.int .u8 0), (.int .u8 0), (.int .u8 0), (.int .u8 0), (.int .u8 0), (.int .u8 0), (.int .u8 0), (.int .u8 0), (.int .u8 0), (.int .u8 0), (.int .u8 0), (.int .u8 0), (.int .u8 0), (.int .u8 0), (.int .u8 0), (.int .u8 0), (.int .u8 0), (.int .u8 0), (.int .u8 0), (.int .u8 0), (.int .u8 0), (.int .u8 0), (.int .u8 0), (.int .u8 0), (.int .u8 0), (.int .u8 0), (.int .u8 0), (.int .u8 0), (.int .u8 0), (.int .u8 0), (.int .u8 0), (.int .u8 0)] 262, none, 0, false⟩,
 ⟨none, .store 64 (.tmp 8) (.tmp 22), none, 0, false⟩,
 ⟨(some 9), .move (.tmp 23), none, 0, false⟩])
 (.seq (.seq (.region [⟨(some 24), .move (.tmp 9), none, 0, false⟩,
 ⟨(some 25), .bin .neq (.tmp 24) (.const (.int .i64 0)), none, 0, false⟩])
 (.cond (.tmp 25) (.seq (.region [⟨(some 26), .build [(.int .u64 0), (.int .u32 0), (.int .u64 0), (.int .i64 0), (.int .u64 0), (.slice none 0 0)] [], none, 0, false⟩,
 ⟨none, .store 6 (.tmp 4) (.tmp 26), none, 0, false⟩,
 ⟨(some 5), .move (.const (.bool false)), none, 0, false⟩])
 .ret)
 .skip))
 (.region [⟨(some 27), .move (.tmp 6), none, 0, false⟩,
 ⟨(some 28), .loadN 64 (.tmp 8), none, 0, false⟩,
 ⟨(some 29), .buildSlice 1 64 262 [(.int .u8 0), (.int .u8 0), (.int .u8 0), (.int .u8 0), (.int .u8 0), (.int .u8 0), (.int .u8 0), (.int .u8 0), (.int .u8 0), (.int .u8 0), (.int .u8 0), (.int .u8 0), (.int .u8 0), (.int .u8 0), (.int .u8 0), (.int .u8 0), (.int .u8 0), (.int .u8 0), (.int .u8 0), (.int .u8 0), (.int .u8 0), (.int .u8 0), (.int .u8 0), (.int .u8 0), (.int .u8 0), (.int .u8 0), (.int .u8 0), (.int .u8 0), (.int .u8 0), (.int .u8 0), (.int .u8 0), (.int .u8 0), (.int .u8 0), (.int .u8 0), (.int .u8 0), (.int .u8 0), (.int .u8 0), (.int .u8 0), (.int .u8 0), (.int .u8 0), (.int .u8 0), (.int .u8 0), (.int .u8 0), (.int .u8 0), (.int .u8 0), (.int .u8 0), (.int .u8 0), (.int .u8 0), (.int .u8 0), (.int .u8 0), (.int .u8 0), (.int .u8 0), (.int .u8 0), (.int .u8 0), (.int .u8 0), (.int .u8 0), (.int .u8 0), (.int .u8 0), (.int .u8 0), (.int .u8 0), (.int .u8 0), (.int .u8 0), (.int .u8 0), (.int .u8 0)] [(0, 64, (.tmp 28))], none, 0, false⟩,
 ⟨(some 30), .append 64 64 262 [(.int .u8 0), (.int .u8 0), (.int .u8 0), (.int .u8 0), (.int .u8 0), (.int .u8 0), (.int .u8 0), (.int .u8 0), (.int .u8 0), (.int .u8 0), (.int .u8 0), (.int .u8 0), (.int .u8 0), (.int .u8 0), (.int .u8 0), (.int .u8 0), (.int .u8 0), (.int .u8 0), (.int .u8 0), (.int .u8 0), (.int .u8 0), (.int .u8 0), (.int .u8 0), (.int .u8 0), (.int .u8 0), (.int .u8 0), (.int .u8 0), (.int .u8 0), (.int .u8 0), (.int .u8 0), (.int .u8 0), (.int .u8 0), (.int .u8 0), (.int .u8 0), (.int .u8 0), (.int .u8 0), (.int .u8 0), (.int .u8 0), (.int .u8 0), (.int .u8 0), (.int .u8 0), (.int .u8 0), (.int .u8 0), (.int .u8 0), (.int .u8 0), (.int .u8 0), (.int .u8 0), (.int .u8 0), (.int .u8 0), (.int .u8 0), (.int .u8 0), (.int .u8 0), (.int .u8 0), (.int .u8 0), (.int .u8 0), (.int .u8 0), (.int .u8 0), (.int .u8 0), (.int .u8 0), (.int .u8 0), (.int .u8 0), (.int .u8 0), (.int .u8 0), (.int .u8 0)] false (.tmp 27) (.tmp 29), none, 0, false⟩,
 ⟨(some 6), .move (.tmp 30), none, 0, false⟩])))))
 (.region [⟨(some 31), .bin .add (.tmp 13) (.const (.int .i64 1)), none, 0, false⟩,
 ⟨(some 13), .move (.tmp 31), none, 0, false⟩])))))))
 (.seq (.region [⟨(some 33), .move (.tmp 6), none, 0, false⟩,
 ⟨(some 34), .call (.func 249) [(.tmp 33)], none, 0, false⟩,
 ⟨(some 32), .move (.tmp 34), none, 0, false⟩,
 ⟨(some 35), .extract (.tmp 32) 0, none, 0, false⟩,
 ⟨(some 36), .extract (.tmp 32) 1, none, 0, false⟩,
 ⟨(some 37), .extract (.tmp 32) 2, none, 0, false⟩,
 ⟨(some 10), .alloc [(.int .u64 0), (.int .u32 0), (.slice none 0 0)] 255, none, 0, false⟩,
 ⟨none, .store 3 (.tmp 10) (.tmp 35), none, 0, false⟩,
 ⟨(some 11), .move (.tmp 36), none, 0, false⟩,
 ⟨(some 12), .move (.tmp 37), none, 0, false⟩])
 (.seq (.seq (.region [⟨(some 38), .move (.tmp 12), none, 0, false⟩,
 ⟨(some 39), .un .not (.tmp 38), none, 0, false⟩,
 ⟨(some 40), .move (.tmp 39), none, 0, false⟩,
 ⟨(some 41), .fieldAddr 0 (.tmp 10), (some (40, false)), 0, false⟩,
 ⟨(some 42), .load1 (.tmp 41), (some (40, false)), 0, false⟩,
 ⟨(some 43), .call (.func 196) [(.tmp 42)], (some (40, false)), 0, false⟩,
 ⟨(some 44), .move (.tmp 1), (some (40, false)), 0, false⟩,
 ⟨(some 45), .bin .neq (.tmp 43) (.tmp 44), (some (40, false)), 0, false⟩,
 ⟨(some 46), .pick (.tmp 40) (.const (.bool true)) (.tmp 45), none, 0, false⟩])
 (.cond (.tmp 46) (.seq (.region [⟨(some 47), .build [(.int .u64 0), (.int .u32 0), (.int .u64 0), (.int .i64 0), (.int .u64 0), (.slice none 0 0)] [], none, 0, false⟩,
 ⟨none, .store 6 (.tmp 4) (.tmp 47), none, 0, false⟩,
 ⟨(some 5), .move (.const (.bool false)), none, 0, false⟩])
 .ret)
 .skip))
 (.seq (.region [⟨(some 48), .move (.tmp 0), none, 0, false⟩,
 ⟨(some 49), .loadN 3 (.tmp 10), none, 0, false⟩,
 ⟨(some 50), .call (.func 250) [(.tmp 48), (.tmp 49)], none, 0, false⟩,
 ⟨(some 51), .extract (.tmp 50) 0, none, 0, false⟩,
 ⟨(some 52), .extract (.tmp 50) 1, none, 0, false⟩,
 ⟨none, .store 6 (.tmp 4) (.tmp 51), none, 0, false⟩,
 ⟨(some 5), .move (.tmp 52), none, 0, false⟩])
 .ret))))))⟩

def L222 : LFunc := ⟨64, [.cellN 2 3, .tmp 3],
 (.seq (.region [⟨(some 2), .alloc [(.int .u64 0), (.int .u32 0), (.slice none 0 0)] 255, none, 0, false⟩,
 ⟨(some 3), .move (.const (.bool false)), none, 0, false⟩])
 (.seq (.seq (.draw [⟨(some 10), .move (.tmp 0), none, 0, false⟩,
 ⟨(some 11), .move (.tmp 0), none, 0, false⟩,
 ⟨(some 12), .nilCheck (.tmp 11), none, 0, false⟩,
 ⟨(some 13), .fieldAddr 4 (.tmp 12), none, 0, false⟩,
 ⟨(some 14), .load1 (.tmp 13), none, 0, false⟩,
 ⟨(some 15), .move (.tmp 0), none, 0, false⟩,
 ⟨(some 16), .nilCheck (.tmp 15), none, 0, false⟩,
 ⟨(some 17), .fieldAddr 5 (.tmp 16), none, 0, false⟩,
 ⟨(some 18), .load1 (.tmp 17), none, 0, false⟩,
 ⟨(some 19), .call (.func 251) [(.tmp 10), (.tmp 14), (.tmp 18)], none, 0, true⟩,
 ⟨(some 9), .move (.tmp 19), none, 1, false⟩,
 ⟨(some 20), .extract (.tmp 9) 0, none, 1, false⟩,
 ⟨(some 4), .alloc [(.int .u64 0), (.int .u32 0), (.slice none 0 0)] 255, none, 0, false⟩,
 ⟨none, .store 3 (.tmp 4) (.tmp 20), none, 1, true⟩,
 ⟨(some 21), .extract (.tmp 9) 1, none, 1, false⟩,
 ⟨(some 5), .move (.tmp 21), none, 2, false⟩])
 (.seq (.region [⟨(some 22), .move (.tmp 5), none, 0, false⟩,
 ⟨(some 23), .bin .gtr (.tmp 22) (.const (.int .i64 0)), none, 0, false⟩])
 (.cond (.tmp 23) (.seq (.region [⟨(some 24), .move (.tmp 0), none, 0, false⟩,
 ⟨(some 25), .nilCheck (.tmp 24), none, 0, false⟩,
 ⟨(some 26), .fieldAddr 5 (.tmp 25), none, 0, false⟩,
 ⟨(some 27), .load1 (.tmp 26), none, 0, false⟩,
 ⟨(some 28), .move (.tmp 5), none, 0, false⟩,
 ⟨(some 29), .bin .add (.tmp 27) (.tmp 28), none, 0, false⟩,
 ⟨(some 30), .nilCheck (.tmp 24), none, 0, false⟩,
 ⟨(some 31), .fieldAddr 5 (.tmp 30), none, 0, false⟩,
 ⟨none, .store 1 (.tmp 31) (.tmp 29), none, 0, false⟩])
 (.seq (.region [⟨(some 32), .loadN 3 (.tmp 4), none, 0, false⟩,
 ⟨none, .store 3 (.tmp 2) (.tmp 32), none, 0, false⟩,
 ⟨(some 3), .move (.const (.bool true)), none, 0, false⟩])
 .ret))
 .skip)))
 (.seq (.region [⟨(some 33), .move (.tmp 0), none, 0, false⟩,
 ⟨(some 34), .move (.tmp 0), none, 0, false⟩,
 ⟨(some 35), .nilCheck (.tmp 34), none, 0, false⟩,
 ⟨(some 36), .fieldAddr 4 (.tmp 35), none, 0, false⟩,
 ⟨(some 37), .load1 (.tmp 36), none, 0, false⟩,
 ⟨(some 38), .call (.func 216) [(.tmp 33), (.tmp 37)], none, 0, false⟩,
 ⟨(some 6), .move (.tmp 38), none, 0, false⟩])
 (.seq (.seq (.region [⟨(some 39), .move (.tmp 6), none, 0, false⟩,
 ⟨(some 40), .move (.tmp 0), none, 0, false⟩,
 ⟨(some 41), .nilCheck (.tmp 40), none, 0, false⟩,
 ⟨(some 42), .fieldAddr 3 (.tmp 41), none, 0, false⟩,
 ⟨(some 43), .load1 (.tmp 42), none, 0, false⟩,
 ⟨(some 44), .bin .eql (.tmp 39) (.tmp 43), none, 0, false⟩])
 (.cond (.tmp 44) (.seq (.region [⟨(some 45), .build [(.int .u64 0), (.int .u32 0), (.slice none 0 0)] [], none, 0, false⟩,
 ⟨none, .store 3 (.tmp 2) (.tmp 45), none, 0, false⟩,
 ⟨(some 3), .move (.const (.bool false)), none, 0, false⟩])
 .ret)
 .skip))
 (.seq (.region [⟨(some 47), .move (.tmp 0), none, 0, false⟩,
 ⟨(some 48), .move (.tmp 6), none, 0, false⟩,
 ⟨(some 49), .call (.func 251) [(.tmp 47), (.tmp 48), (.const (.int .i64 0))], none, 0, false⟩,
 ⟨(some 46), .move (.tmp 49), none, 0, false⟩,
 ⟨(some 50), .extract (.tmp 46) 0, none, 0, false⟩,
 ⟨(some 51), .extract (.tmp 46) 1, none, 0, false⟩,
 ⟨(some 7), .alloc [(.int .u64 0), (.int .u32 0), (.slice none 0 0)] 255, none, 0, false⟩,
 ⟨none, .store 3 (.tmp 7) (.tmp 50), none, 0, false⟩,
 ⟨(some 8), .move (.tmp 51), none, 0, false⟩])
 (.seq (.seq (.region [⟨(some 52), .move (.tmp 8), none, 0, false⟩,
 ⟨(some 53), .bin .eql (.tmp 52) (.const (.int .i64 0)), none, 0, false⟩])
 (.cond (.tmp 53) (.seq (.region [⟨(some 54), .build [(.int .u64 0), (.int .u32 0), (.slice none 0 0)] [], none, 0, false⟩,
 ⟨none, .store 3 (.tmp 2) (.tmp 54), none, 0, false⟩,
 ⟨(some 3), .move (.const (.bool false)), none, 0, false⟩])
 .ret)
 .skip))
 (.seq (.region [⟨(some 55), .move (.tmp 0), none, 0, false⟩,
 ⟨(some 56), .move (.tmp 0), none, 0, false⟩,
 ⟨(some 57), .move (.tmp 6), none, 0, false⟩,
 ⟨(some 58), .move (.tmp 8), none, 0, false⟩,
 ⟨(some 59), .nilCheck (.tmp 55), none, 0, false⟩,
 ⟨(some 60), .fieldAddr 4 (.tmp 59), none, 0, false⟩,
 ⟨none, .store 1 (.tmp 60) (.tmp 57), none, 0, false⟩,
 ⟨(some 61), .nilCheck (.tmp 56), none, 0, false⟩,
 ⟨(some 62), .fieldAddr 5 (.tmp 61), none, 0, false⟩,
 ⟨none, .store 1 (.tmp 62) (.tmp 58), none, 0, false⟩])
 (.seq (.region [⟨(some 63), .loadN 3 (.tmp 7), none, 0, false⟩,
 ⟨none, .store 3 (.tmp 2) (.tmp 63), none, 0, false⟩,
 ⟨(some 3), .move (.const (.bool true)), none, 0, false⟩])
 .ret))))))))⟩

def L223 : LFunc := ⟨32, [.tmp 2, .tmp 3],
 (.seq (.region [⟨(some 2), .move (.const (.slice none 0 0)), none, 0, false⟩,
 ⟨(some 3), .move (.const (.int .i64 0)), none, 0, false⟩])
 (.seq (.region [⟨(some 4), .move (.const (.slice none 0 0)), none, 0, false⟩])
 (.seq (.block 0 (.loop (.seq (.seq (.region [⟨(some 8), .move (.tmp 0), none, 0, false⟩,
 ⟨(some 9), .len false (.tmp 8), none, 0, false⟩,
 ⟨(some 10), .bin .gtr (.tmp 9) (.const (.int .i64 0)), none, 0, false⟩])
 (.cond (.tmp 10) .skip
 (.exit 0)))
 (.block 1 (.seq (.region [⟨(some 12), .move (.tmp 0), none, 0, false⟩,
 ⟨(some 13), .call (.func 59) [(.tmp 12)], none, 0, false⟩,
 ⟨(some 11), .move (.tmp 13), none, 0, false⟩,
 ⟨(some 14), .extract (.tmp 11) 0, none, 0, false⟩,
 ⟨(some 15), .extract (.tmp 11) 1, none, 0, false⟩,
 ⟨(some 16), .extract (.tmp 11) 2, none, 0, false⟩,
 ⟨(some 5), .move (.tmp 14), none, 0, false⟩,
 ⟨(some 6), .move (.tmp 15), none, 0, false⟩,
 ⟨(some 7), .move (.tmp 16), none, 0, false⟩])
 (.seq (.seq (.region [⟨(some 17), .move (.tmp 7), none, 0, false⟩,
 ⟨(some 18), .bin .neq (.tmp 17) (.const (.int .i64 0)), none, 0, false⟩,
 ⟨(some 19), .move (.tmp 18), none, 0, false⟩,
 ⟨(some 20), .move (.tmp 4), (some (19, false)), 0, false⟩,
 ⟨(some 21), .len false (.tmp 20), (some (19, false)), 0, false⟩,
 ⟨(some 22), .bin .geq (.tmp 21) (.const (.int .i64 128)), (some (19, false)), 0, false⟩,
 ⟨(some 23), .pick (.tmp 19) (.const (.bool true)) (.tmp 22), none, 0, false⟩])
 (.cond (.tmp 23) (.seq (.region [⟨(some 2), .move (.const (.slice none 0 0)), none, 0, false⟩,
 ⟨(some 3), .move (.const (.int .i64 21)), none, 0, false⟩])
 .ret)
 .skip))
 (.seq (.region [⟨(some 24), .move (.tmp 4), none, 0, false⟩,
 ⟨(some 25), .move (.tmp 5), none, 0, false⟩,
 ⟨(some 26), .buildSlice 1 1 26 [(.int .u64 0)] [(0, 1, (.tmp 25))], none, 0, false⟩,
 ⟨(some 27), .append 1 8 26 [(.int .u64 0)] false (.tmp 24) (.tmp 26), none, 0, false⟩,
 ⟨(some 4), .move (.tmp 27), none, 0, false⟩])
 (.region [⟨(some 28), .move (.tmp 0), none, 0, false⟩,
 ⟨(some 29), .move (.tmp 6), none, 0, false⟩,
 ⟨(some 30), .slice 1 (.tmp 28) (some (.tmp 29)) none none, none, 0, false⟩,
 ⟨(some 0), .move (.tmp 30), none, 0, false⟩]))))))))
 (.seq (.region [⟨(some 31), .move (.tmp 4), none, 0, false⟩,
 ⟨(some 2), .move (.tmp 31), none, 0, false⟩,
 ⟨(some 3), .move (.const (.int .i64 0)), none, 0, false⟩])
 .ret))))⟩

def L224 : LFunc := ⟨77, [.cellN 2 6, .cell1 3],
 (.seq (.region [⟨(some 2), .alloc [(.int .i64 0), (.int .i64 0), (.slice none 0 0), (.slice none 0 0), (.int .u64 0), (.int .u64 0)] 159, none, 0, false⟩,
 ⟨(some 3), .alloc [(.bool false)] 4, none, 0, false⟩])
 (.seq (.seq (.region [⟨(some 13), .move (.tmp 0), none, 0, false⟩,
 ⟨(some 14), .len false (.tmp 13), none, 0, false⟩,
 ⟨(some 15), .bin .eql (.tmp 14) (.const (.int .i64 0)), none, 0, false⟩,
 ⟨(some 16), .move (.tmp 15), none, 0, false⟩,
 ⟨(some 17), .move (.tmp 0), (some (16, false)), 0, false⟩,
 ⟨(some 18), .indexAddr 1 (.tmp 17) (.const (.int .i64 0)), (some (16, false)), 0, false⟩,
 ⟨(some 19), .load1 (.tmp 18), (some (16, false)), 0, false⟩,
 ⟨(some 20), .move (.tmp 0), (some (16, false)), 0, false⟩,
 ⟨(some 21), .len false (.tmp 20), (some (16, false)), 0, false⟩,
 ⟨(some 22), .bin .sub (.tmp 21) (.const (.int .i64 1)), (some (16, false)), 0, false⟩,
 ⟨(some 23), .conv (.int .u64) (.tmp 22), (some (16, false)), 0, false⟩,
 ⟨(some 24), .bin .gtr (.tmp 19) (.tmp 23), (some (16, false)), 0, false⟩,
 ⟨(some 25), .pick (.tmp 16) (.const (.bool true)) (.tmp 24), none, 0, false⟩])
 (.cond (.tmp 25) (.seq (.region [⟨(some 26), .build [(.int .i64 0), (.int .i64 0), (.slice none 0 0), (.slice none 0 0), (.int .u64 0), (.int .u64 0)] [], none, 0, false⟩,
 ⟨none, .store 6 (.tmp 2) (.tmp 26), none, 0, false⟩,
 ⟨none, .store 1 (.tmp 3) (.const (.bool false)), none, 0, false⟩])
 .ret)
 .skip))
 (.seq (.region [⟨(some 27), .move (.tmp 0), none, 0, false⟩,
 ⟨(some 28), .indexAddr 1 (.tmp 27) (.const (.int .i64 0)), none, 0, false⟩,
 ⟨(some 29), .load1 (.tmp 28), none, 0, false⟩,
 ⟨(some 30), .conv (.int .i64) (.tmp 29), none, 0, false⟩,
 ⟨(some 4), .move (.tmp 30), none, 0, false⟩])
 (.seq (.region [⟨(some 31), .build [(.int .i64 0), (.int .i64 0), (.slice none 0 0), (.slice none 0 0), (.int .u64 0), (.int .u64 0)] [(0, 1, (.const (.int .i64 1)))], none, 0, false⟩,
 ⟨(some 5), .alloc [(.int .i64 0), (.int .i64 0), (.slice none 0 0), (.slice none 0 0), (.int .u64 0), (.int .u64 0)] 159, none, 0, false⟩,
 ⟨none, .store 6 (.tmp 5) (.tmp 31), none, 0, false⟩])
 (.seq (.seq (.region [⟨(some 32), .move (.tmp 0), none, 0, false⟩,
 ⟨(some 33), .move (.tmp 4), none, 0, false⟩,
 ⟨(some 34), .bin .add (.const (.int .i64 1)) (.tmp 33), none, 0, false⟩,
 ⟨(some 35), .slice 1 (.tmp 32) (some (.const (.int .i64 1))) (some (.tmp 34)) none, none, 0, false⟩,
 ⟨(some 36), .len false (.tmp 35), none, 0, false⟩,
 ⟨(some 37), .move (.const (.int .i64 0)), none, 0, false⟩])
 (.block 0 (.loop (.seq (.region [⟨(some 38), .bin .lss (.tmp 37) (.tmp 36), none, 0, false⟩])
 (.seq (.cond (.tmp 38) .skip
 (.exit 0))
 (.seq (.block 1 (.seq (.region [⟨(some 39), .indexAddr 1 (.tmp 35) (.tmp 37), none, 0, false⟩,
 ⟨(some 40), .load1 (.tmp 39), none, 0, false⟩,
 ⟨(some 7), .move (.tmp 40), none, 0, false⟩])
 (.seq (.region [⟨(some 42), .move (.tmp 7), none, 0, false⟩,
 ⟨(some 43), .call (.func 60) [(.tmp 42)], none, 0, false⟩,
 ⟨(some 41), .move (.tmp 43), none, 0, false⟩,
 ⟨(some 44), .extract (.tmp 41) 0, none, 0, false⟩,
 ⟨(some 45), .extract (.tmp 41) 1, none, 0, false⟩,
 ⟨(some 8), .move (.tmp 44), none, 0, false⟩,
 ⟨(some 9), .move (.tmp 45), none, 0, false⟩])
 (.seq (.seq (.region [⟨(some 46), .move (.tmp 9), none, 0, false⟩,
 ⟨(some 47), .un .not (.tmp 46), none, 0, false⟩])
 (.cond (.tmp 47) (.seq (.region [⟨(some 48), .build [(.int .i64 0), (.int .i64 0), (.slice none 0 0), (.slice none 0 0), (.int .u64 0), (.int .u64 0)] [], none, 0, false⟩,
 ⟨none, .store 6 (.tmp 2) (.tmp 48), none, 0, false⟩,
 ⟨none, .store 1 (.tmp 3) (.const (.bool false)), none, 0, false⟩])
 .ret)
 .skip))
 (.region [⟨(some 49), .fieldAddr 3 (.tmp 5), none, 0, false⟩,
 ⟨(some 50), .load1 (.tmp 49), none, 0, false⟩,
 ⟨(some 51), .move (.tmp 8), none, 0, false⟩,
 ⟨(some 52), .buildSlice 1 1 3 [(.int .i64 0)] [(0, 1, (.tmp 51))], none, 0, false⟩,
 ⟨(some 53), .append 1 8 3 [(.int .i64 0)] false (.tmp 50) (.tmp 52), none, 0, false⟩,
 ⟨(some 54), .fieldAddr 3 (.tmp 5), none, 0, false⟩,
 ⟨none, .store 1 (.tmp 54) (.tmp 53), none, 0, false⟩])))))
 (.region [⟨(some 55), .bin .add (.tmp 37) (.const (.int .i64 1)), none, 0, false⟩,
 ⟨(some 37), .move (.tmp 55), none, 0, false⟩])))))))
 (.seq (.seq (.region [⟨(some 56), .move (.tmp 0), none, 0, false⟩,
 ⟨(some 57), .move (.tmp 4), none, 0, false⟩,
 ⟨(some 58), .bin .add (.const (.int .i64 1)) (.tmp 57), none, 0, false⟩,
 ⟨(some 59), .slice 1 (.tmp 56) (some (.tmp 58)) none none, none, 0, false⟩,
 ⟨(some 60), .call (.func 252) [(.tmp 59), (.const (.int .i64 10))], none, 0, false⟩])
 (.block 2 (.rangeFunc (.tmp 60) [61] (.region [⟨(some 10), .move (.tmp 61), none, 0, false⟩]) (.block 3 (.seq (.region [⟨(some 63), .move (.tmp 10), none, 0, false⟩,
 ⟨(some 64), .call (.func 253) [(.tmp 63)], none, 0, false⟩,
 ⟨(some 62), .move (.tmp 64), none, 0, false⟩,
 ⟨(some 65), .extract (.tmp 62) 0, none, 0, false⟩,
 ⟨(some 66), .extract (.tmp 62) 1, none, 0, false⟩,
 ⟨(some 11), .alloc [(.int .i64 0), (.int .u8 0), (.int .u8 0), (.int .u8 0), (.int .u8 0), (.int .i64 0), (.int .u64 0), (.int .u64 0), (.int .u64 0), (.int .u64 0), (.int .u64 0), (.int .u64 0), (.int .u64 0)] 34, none, 0, false⟩,
 ⟨none, .store 13 (.tmp 11) (.tmp 65), none, 0, false⟩,
 ⟨(some 12), .move (.tmp 66), none, 0, false⟩])
 (.seq (.seq (.region [⟨(some 67), .move (.tmp 12), none, 0, false⟩,
 ⟨(some 68), .bin .neq (.tmp 67) (.const (.int .i64 0)), none, 0, false⟩])
 (.cond (.tmp 68) (.seq (.region [⟨(some 69), .build [(.int .i64 0), (.int .i64 0), (.slice none 0 0), (.slice none 0 0), (.int .u64 0), (.int .u64 0)] [], none, 0, false⟩,
 ⟨none, .store 6 (.tmp 2) (.tmp 69), none, 0, false⟩,
 ⟨none, .store 1 (.tmp 3) (.const (.bool false)), none, 0, false⟩])
 .ret)
 .skip))
 (.region [⟨(some 70), .fieldAddr 2 (.tmp 5), none, 0, false⟩,
 ⟨(some 71), .load1 (.tmp 70), none, 0, false⟩,
 ⟨(some 72), .loadN 13 (.tmp 11), none, 0, false⟩,
 ⟨(some 73), .buildSlice 1 13 34 [(.int .i64 0), (.int .u8 0), (.int .u8 0), (.int .u8 0), (.int .u8 0), (.int .i64 0), (.int .u64 0), (.int .u64 0), (.int .u64 0), (.int .u64 0), (.int .u64 0), (.int .u64 0), (.int .u64 0)] [(0, 13, (.tmp 72))], none, 0, false⟩,
 ⟨(some 74), .append 13 80 34 [(.int .i64 0), (.int .u8 0), (.int .u8 0), (.int .u8 0), (.int .u8 0), (.int .i64 0), (.int .u64 0), (.int .u64 0), (.int .u64 0), (.int .u64 0), (.int .u64 0), (.int .u64 0), (.int .u64 0)] false (.tmp 71) (.tmp 73), none, 0, false⟩,
 ⟨(some 75), .fieldAddr 2 (.tmp 5), none, 0, false⟩,
 ⟨none, .store 1 (.tmp 75) (.tmp 74), none, 0, false⟩])))))))
 (.seq (.region [⟨(some 76), .loadN 6 (.tmp 5), none, 0, false⟩,
 ⟨none, .store 6 (.tmp 2) (.tmp 76), none, 0, false⟩,
 ⟨none, .store 1 (.tmp 3) (.const (.bool true)), none, 0, false⟩])
 .ret)))))))⟩

def L225 : LFunc := ⟨22, [.tmp 4, .tmp 5],
 (.seq (.region [⟨(some 4), .move (.const (.int .i64 0)), none, 0, false⟩,
 ⟨(some 5), .move (.const (.int .i64 0)), none, 0, false⟩])
 (.seq (.region [⟨(some 9), .move (.tmp 0), none, 0, false⟩,
 ⟨(some 10), .move (.tmp 1), none, 0, false⟩,
 ⟨(some 11), .buildSlice 1 1 3 [(.int .i64 0)] [(0, 1, (.tmp 10))], none, 0, false⟩,
 ⟨(some 12), .call (.func 217) [(.tmp 9), (.tmp 11)], none, 0, false⟩,
 ⟨(some 8), .move (.tmp 12), none, 0, false⟩,
 ⟨(some 13), .extract (.tmp 8) 0, none, 0, false⟩,
 ⟨(some 14), .extract (.tmp 8) 1, none, 0, false⟩,
 ⟨(some 6), .move (.tmp 13), none, 0, false⟩,
 ⟨(some 7), .move (.tmp 14), none, 0, false⟩])
 (.seq (.seq (.region [⟨(some 15), .move (.tmp 7), none, 0, false⟩,
 ⟨(some 16), .bin .neq (.tmp 15) (.const (.int .i64 0)), none, 0, false⟩])
 (.cond (.tmp 16) (.seq (.region [⟨(some 17), .move (.tmp 7), none, 0, false⟩,
 ⟨(some 4), .move (.const (.int .i64 0)), none, 0, false⟩,
 ⟨(some 5), .move (.tmp 17), none, 0, false⟩])
 .ret)
 .skip))
 (.seq (.region [⟨(some 18), .move (.tmp 1), none, 0, false⟩,
 ⟨(some 19), .bin .add (.tmp 18) (.const (.int .i64 1)), none, 0, false⟩,
 ⟨(some 20), .move (.tmp 6), none, 0, false⟩,
 ⟨(some 21), .bin .rem (.tmp 19) (.tmp 20), none, 0, false⟩,
 ⟨(some 4), .move (.tmp 21), none, 0, false⟩,
 ⟨(some 5), .move (.const (.int .i64 0)), none, 0, false⟩])
 .ret))))⟩

def L226 : LFunc := ⟨5, [.tmp 2],
 (.seq (.region [⟨(some 2), .move (.const (.slice none 0 0)), none, 0, false⟩])
 (.seq (.region [⟨(some 3), .move (.tmp 0), none, 0, false⟩,
 ⟨(some 4), .call (.func 254) [(.const (.slice none 0 0)), (.tmp 3)], none, 0, false⟩,
 ⟨(some 2), .move (.tmp 4), none, 0, false⟩])
 .ret))⟩

def L227 : LFunc := ⟨11, [],
 (.seq (.region [⟨(some 3), .move (.tmp 0), none, 0, false⟩,
 ⟨(some 4), .len false (.tmp 3), none, 0, false⟩,
 ⟨(some 2), .move (.tmp 4), none, 0, false⟩])
 (.region [⟨(some 5), .move (.tmp 0), none, 0, false⟩,
 ⟨(some 6), .move (.tmp 2), none, 0, false⟩,
 ⟨(some 7), .move (.tmp 2), none, 0, false⟩,
 ⟨(some 8), .conv (.int .u64) (.tmp 7), none, 0, false⟩,
 ⟨(some 9), .call (.func 243) [(.tmp 8)], none, 0, false⟩,
 ⟨(some 10), .call (.func 255) [(.tmp 5), (.const (.int .i64 0)), (.tmp 6), (.tmp 9)], none, 0, false⟩]))⟩

def L228 : LFunc := ⟨14, [],
 (.seq (.region [⟨(some 4), .load1 (.tmp 1), none, 0, false⟩,
 ⟨(some 5), .rangeMap (.tmp 4), none, 0, false⟩])
 (.block 0 (.loop (.seq (.region [⟨(some 6), .nextMap (.tmp 5), none, 0, false⟩,
 ⟨(some 7), .extract (.tmp 6) 0, none, 0, false⟩])
 (.seq (.cond (.tmp 7) .skip
 (.exit 0))
 (.block 1 (.seq (.region [⟨(some 8), .entryMap (.tmp 5), none, 0, false⟩,
 ⟨(some 9), .extract (.tmp 8) 0, none, 0, false⟩,
 ⟨(some 3), .move (.tmp 9), none, 0, false⟩])
 (.seq (.region [⟨(some 10), .move (.tmp 0), none, 0, false⟩,
 ⟨(some 11), .move (.tmp 3), none, 0, false⟩,
 ⟨(some 12), .call (.tmp 10) [(.tmp 11)], none, 0, false⟩,
 ⟨(some 13), .un .not (.tmp 12), none, 0, false⟩])
 (.cond (.tmp 13) .ret
 .skip)))))))))⟩

def L229 : LFunc := ⟨5, [.tmp 2],
 (.seq (.region [⟨(some 2), .move (.const (.bool false)), none, 0, false⟩])
 (.seq (.region [⟨(some 3), .move (.tmp 0), none, 0, false⟩,
 ⟨(some 4), .bin .gtr (.tmp 3) (.const (.int .u64 281474976710656)), none, 0, false⟩,
 ⟨(some 2), .move (.tmp 4), none, 0, false⟩])
 .ret))⟩

def L230 : LFunc := ⟨5, [.tmp 2],
 (.seq (.region [⟨(some 2), .move (.const (.bool false)), none, 0, false⟩])
 (.seq (.region [⟨(some 3), .move (.tmp 0), none, 0, false⟩,
 ⟨(some 4), .bin .lss (.tmp 3) (.const (.int .u64 1500)), none, 0, false⟩,
 ⟨(some 2), .move (.tmp 4), none, 0, false⟩])
 .ret))⟩

def L231 : LFunc := ⟨9, [.tmp 4],
 (.seq (.region [⟨(some 4), .move (.const (.bool false)), none, 0, false⟩])
 (.seq (.region [⟨(some 5), .move (.tmp 0), none, 0, false⟩,
 ⟨(some 6), .move (.tmp 1), none, 0, false⟩,
 ⟨(some 7), .call (.func 256) [(.tmp 5), (.tmp 6)], none, 0, false⟩,
 ⟨(some 8), .bin .geq (.tmp 7) (.const (.int .i64 0)), none, 0, false⟩,
 ⟨(some 4), .move (.tmp 8), none, 0, false⟩])
 .ret))⟩

def L232 : LFunc := ⟨42, [.tmp 4],
 (.seq (.region [⟨(some 4), .move (.const (.slice none 0 0)), none, 0, false⟩])
 (.seq (.region [⟨(some 8), .move (.tmp 0), none, 0, false⟩,
 ⟨(some 9), .move (.tmp 1), none, 0, false⟩,
 ⟨(some 10), .call (.func 257) [(.tmp 8), (.tmp 9)], none, 0, false⟩,
 ⟨(some 5), .move (.tmp 10), none, 0, false⟩])
 (.seq (.seq (.region [⟨(some 11), .move (.tmp 5), none, 0, false⟩,
 ⟨(some 12), .bin .eql (.tmp 11) (.const (.int .i64 (-1))), none, 0, false⟩])
 (.cond (.tmp 12) (.seq (.region [⟨(some 13), .move (.tmp 0), none, 0, false⟩,
 ⟨(some 4), .move (.tmp 13), none, 0, false⟩])
 .ret)
 .skip))
 (.seq (.seq (.region [⟨(some 14), .move (.tmp 5), none, 0, false⟩,
 ⟨(some 15), .bin .add (.tmp 14) (.const (.int .i64 1)), none, 0, false⟩,
 ⟨(some 6), .move (.tmp 15), none, 0, false⟩])
 (.block 0 (.loop (.seq (.seq (.region [⟨(some 16), .move (.tmp 6), none, 0, false⟩,
 ⟨(some 17), .move (.tmp 0), none, 0, false⟩,
 ⟨(some 18), .len false (.tmp 17), none, 0, false⟩,
 ⟨(some 19), .bin .lss (.tmp 16) (.tmp 18), none, 0, false⟩])
 (.cond (.tmp 19) .skip
 (.exit 0)))
 (.seq (.block 1 (.seq (.region [⟨(some 22), .move (.tmp 0), none, 0, false⟩,
 ⟨(some 23), .move (.tmp 6), none, 0, false⟩,
 ⟨(some 24), .indexAddr 1 (.tmp 22) (.tmp 23), none, 0, false⟩,
 ⟨(some 25), .load1 (.tmp 24), none, 0, false⟩,
 ⟨(some 7), .move (.tmp 25), none, 0, false⟩])
 (.seq (.region [⟨(some 26), .move (.tmp 1), none, 0, false⟩,
 ⟨(some 27), .move (.tmp 7), none, 0, false⟩,
 ⟨(some 28), .call (.tmp 26) [(.tmp 27)], none, 0, false⟩,
 ⟨(some 29), .un .not (.tmp 28), none, 0, false⟩])
 (.cond (.tmp 29) (.seq (.region [⟨(some 30), .move (.tmp 0), none, 0, false⟩,
 ⟨(some 31), .move (.tmp 5), none, 0, false⟩,
 ⟨(some 32), .move (.tmp 7), none, 0, false⟩,
 ⟨(some 33), .indexAddr 1 (.tmp 30) (.tmp 31), none, 0, false⟩,
 ⟨none, .store 1 (.tmp 33) (.tmp 32), none, 0, false⟩])
 (.region [⟨(some 34), .move (.tmp 5), none, 0, false⟩,
 ⟨(some 35), .bin .add (.tmp 34) (.const (.int .i64 1)), none, 0, false⟩,
 ⟨(some 5), .move (.tmp 35), none, 0, false⟩]))
 .skip))))
 (.region [⟨(some 20), .move (.tmp 6), none, 0, false⟩,
 ⟨(some 21), .bin .add (.tmp 20) (.const (.int .i64 1)), none, 0, false⟩,
 ⟨(some 6), .move (.tmp 21), none, 0, false⟩]))))))
 (.seq (.region [⟨(some 36), .move (.tmp 0), none, 0, false⟩,
 ⟨(some 37), .move (.tmp 5), none, 0, false⟩,
 ⟨(some 38), .slice 1 (.tmp 36) (some (.tmp 37)) none none, none, 0, false⟩,
 ⟨none, .clearSlice [(.int .i64 0)] (.tmp 38), none, 0, false⟩])
 (.seq (.region [⟨(some 39), .move (.tmp 0), none, 0, false⟩,
 ⟨(some 40), .move (.tmp 5), none, 0, false⟩,
 ⟨(some 41), .slice 1 (.tmp 39) none (some (.tmp 40)) none, none, 0, false⟩,
 ⟨(some 4), .move (.tmp 41), none, 0, false⟩])
 .ret))))))⟩

def L233 : LFunc := ⟨7, [.tmp 3],
 (.seq (.region [⟨(some 3), .move (.const (.bool false)), none, 0, false⟩])
 (.seq (.region [⟨(some 4), .move (.tmp 0), none, 0, false⟩,
 ⟨(some 5), .load1 (.tmp 1), none, 0, false⟩,
 ⟨(some 6), .bin .eql (.tmp 4) (.tmp 5), none, 0, false⟩,
 ⟨(some 3), .move (.tmp 6), none, 0, false⟩])
 .ret))⟩

def L234 : LFunc := ⟨37, [.tmp 4],
 (.seq (.region [⟨(some 3), .box 6 181 (.tmp 1), none, 0, false⟩,
 ⟨(some 4), .move (.const (.bool false)), none, 0, false⟩])
 (.seq (.draw [⟨(some 8), .move (.tmp 0), none, 0, false⟩,
 ⟨(some 9), .call (.func 107) [(.tmp 8)], none, 0, true⟩,
 ⟨(some 10), .fieldAddr 3 (.tmp 3), none, 0, false⟩,
 ⟨(some 11), .load1 (.tmp 10), none, 0, false⟩,
 ⟨(some 12), .call (.func 170) [(.tmp 9), (.tmp 11)], none, 1, true⟩,
 ⟨(some 7), .move (.tmp 12), none, 2, false⟩,
 ⟨(some 13), .extract (.tmp 7) 0, none, 2, false⟩,
 ⟨(some 14), .extract (.tmp 7) 1, none, 2, false⟩,
 ⟨(some 5), .move (.tmp 13), none, 2, false⟩,
 ⟨(some 6), .move (.tmp 14), none, 2, false⟩])
 (.seq (.region [⟨(some 15), .move (.tmp 6), none, 0, false⟩,
 ⟨(some 16), .bin .eql (.tmp 15) (.const (.int .i64 0)), none, 0, false⟩,
 ⟨(some 17), .move (.tmp 16), none, 0, false⟩,
 ⟨(some 18), .fieldAddr 0 (.tmp 3), (some (17, true)), 0, false⟩,
 ⟨(some 19), .load1 (.tmp 18), (some (17, true)), 0, false⟩,
 ⟨(some 20), .call (.func 258) [(.tmp 19)], (some (17, true)), 0, false⟩,
 ⟨(some 21), .pick (.tmp 17) (.tmp 20) (.const (.bool false)), none, 0, false⟩,
 ⟨(some 22), .move (.tmp 21), none, 0, false⟩,
 ⟨(some 23), .fieldAddr 2 (.tmp 3), (some (22, true)), 0, false⟩,
 ⟨(some 24), .load1 (.tmp 23), (some (22, true)), 0, false⟩,
 ⟨(some 25), .call (.func 258) [(.tmp 24)], (some (22, true)), 0, false⟩,
 ⟨(some 26), .pick (.tmp 22) (.tmp 25) (.const (.bool false)), none, 0, false⟩,
 ⟨(some 27), .move (.tmp 26), none, 0, false⟩,
 ⟨(some 28), .fieldAddr 1 (.tmp 3), (some (27, true)), 0, false⟩,
 ⟨(some 29), .load1 (.tmp 28), (some (27, true)), 0, false⟩,
 ⟨(some 30), .bin .leq (.tmp 29) (.const (.int .u32 2147483648)), (some (27, true)), 0, false⟩,
 ⟨(some 31), .pick (.tmp 27) (.tmp 30) (.const (.bool false)), none, 0, false⟩,
 ⟨(some 32), .move (.tmp 31), none, 0, false⟩,
 ⟨(some 33), .fieldAddr 4 (.tmp 3), (some (32, true)), 0, false⟩,
 ⟨(some 34), .loadN 2 (.tmp 33), (some (32, true)), 0, false⟩,
 ⟨(some 35), .call (.func 161) [(.tmp 34)], (some (32, true)), 0, false⟩,
 ⟨(some 36), .pick (.tmp 32) (.tmp 35) (.const (.bool false)), none, 0, false⟩,
 ⟨(some 4), .move (.tmp 36), none, 0, false⟩])
 .ret)))⟩

def L235 : LFunc := ⟨32, [.tmp 2, .tmp 3],
 (.seq (.region [⟨(some 1), .box 2 154 (.tmp 0), none, 0, false⟩,
 ⟨(some 2), .move (.const (.slice none 0 0)), none, 0, false⟩,
 ⟨(some 3), .move (.const (.int .i64 0)), none, 0, false⟩])
 (.seq (.seq (.region [⟨(some 7), .loadN 2 (.tmp 1), none, 0, false⟩,
 ⟨(some 8), .call (.func 161) [(.tmp 7)], none, 0, false⟩,
 ⟨(some 9), .un .not (.tmp 8), none, 0, false⟩])
 (.cond (.tmp 9) (.seq (.region [⟨(some 2), .move (.const (.slice none 0 0)), none, 0, false⟩,
 ⟨(some 3), .move (.const (.int .i64 131)), none, 0, false⟩])
 .ret)
 .skip))
 (.seq (.region [⟨(some 10), .fieldAddr 0 (.tmp 1), none, 0, false⟩,
 ⟨(some 11), .load1 (.tmp 10), none, 0, false⟩,
 ⟨(some 12), .buildSlice 1 1 26 [(.int .u64 0)] [(0, 1, (.tmp 11))], none, 0, false⟩,
 ⟨(some 4), .move (.tmp 12), none, 0, false⟩])
 (.seq (.seq (.region [⟨(some 13), .fieldAddr 1 (.tmp 1), none, 0, false⟩,
 ⟨(some 14), .load1 (.tmp 13), none, 0, false⟩,
 ⟨(some 15), .len false (.tmp 14), none, 0, false⟩,
 ⟨(some 16), .move (.const (.int .i64 0)), none, 0, false⟩])
 (.block 0 (.loop (.seq (.region [⟨(some 17), .bin .lss (.tmp 16) (.tmp 15), none, 0, false⟩])
 (.seq (.cond (.tmp 17) .skip
 (.exit 0))
 (.seq (.block 1 (.seq (.region [⟨(some 18), .indexAddr 14 (.tmp 14) (.tmp 16), none, 0, false⟩,
 ⟨(some 19), .loadN 14 (.tmp 18), none, 0, false⟩,
 ⟨(some 6), .alloc [(.int .i64 0), (.int .u8 0), (.int .u8 0), (.int .u8 0), (.int .u8 0), (.int .i64 0), (.int .u64 0), (.int .u64 0), (.int .u64 0), (.int .u64 0), (.int .u64 0), (.int .u64 0), (.int .u64 0), (.int .u64 0)] 185, none, 0, false⟩,
 ⟨none, .store 14 (.tmp 6) (.tmp 19), none, 0, false⟩])
 (.draw [⟨(some 21), .fieldAddr 0 (.tmp 6), none, 0, false⟩,
 ⟨(some 22), .loadN 13 (.tmp 21), none, 0, false⟩,
 ⟨(some 23), .call (.func 167) [(.tmp 22)], none, 0, true⟩,
 ⟨(some 20), .move (.tmp 4), none, 0, false⟩,
 ⟨(some 24), .append 1 8 26 [(.int .u64 0)] false (.tmp 20) (.tmp 23), none, 1, true⟩,
 ⟨(some 25), .fieldAddr 13 (.tmp 6), none, 0, false⟩,
 ⟨(some 26), .load1 (.tmp 25), none, 0, false⟩,
 ⟨(some 27), .buildSlice 1 1 26 [(.int .u64 0)] [(0, 1, (.tmp 26))], none, 0, false⟩,
 ⟨(some 28), .append 1 8 26 [(.int .u64 0)] false (.tmp 24) (.tmp 27), none, 2, true⟩,
 ⟨(some 4), .move (.tmp 28), none, 3, false⟩])))
 (.region [⟨(some 29), .bin .add (.tmp 16) (.const (.int .i64 1)), none, 0, false⟩,
 ⟨(some 16), .move (.tmp 29), none, 0, false⟩])))))))
 (.seq (.region [⟨(some 30), .move (.tmp 4), none, 0, false⟩,
 ⟨(some 31), .call (.func 21) [(.tmp 30)], none, 0, false⟩,
 ⟨(some 2), .move (.tmp 31), none, 0, false⟩,
 ⟨(some 3), .move (.const (.int .i64 0)), none, 0, false⟩])
 .ret)))))⟩

def L236 : LFunc := ⟨19, [.tmp 4],
 (.seq (.region [⟨(some 4), .move (.const (.int .i64 0)), none, 0, false⟩])
 (.seq (.seq (.region [⟨(some 6), .move (.tmp 0), none, 0, false⟩,
 ⟨(some 7), .len false (.tmp 6), none, 0, false⟩,
 ⟨(some 8), .move (.const (.int .i64 0)), none, 0, false⟩])
 (.block 0 (.loop (.seq (.region [⟨(some 9), .bin .lss (.tmp 8) (.tmp 7), none, 0, false⟩])
 (.seq (.cond (.tmp 9) .skip
 (.exit 0))
 (.seq (.block 1 (.seq (.region [⟨(some 10), .move (.tmp 8), none, 0, false⟩,
 ⟨(some 5), .move (.tmp 10), none, 0, false⟩])
 (.seq (.region [⟨(some 11), .move (.tmp 1), none, 0, false⟩,
 ⟨(some 12), .move (.tmp 0), none, 0, false⟩,
 ⟨(some 13), .move (.tmp 5), none, 0, false⟩,
 ⟨(some 14), .indexAddr 14 (.tmp 12) (.tmp 13), none, 0, false⟩,
 ⟨(some 15), .loadN 14 (.tmp 14), none, 0, false⟩,
 ⟨(some 16), .call (.tmp 11) [(.tmp 15)], none, 0, false⟩])
 (.cond (.tmp 16) (.seq (.region [⟨(some 17), .move (.tmp 5), none, 0, false⟩,
 ⟨(some 4), .move (.tmp 17), none, 0, false⟩])
 .ret)
 .skip))))
 (.region [⟨(some 18), .bin .add (.tmp 8) (.const (.int .i64 1)), none, 0, false⟩,
 ⟨(some 8), .move (.tmp 18), none, 0, false⟩])))))))
 (.seq (.region [⟨(some 4), .move (.const (.int .i64 (-1))), none, 0, false⟩])
 .ret)))⟩

def L237 : LFunc := ⟨9, [.tmp 4],
 (.seq (.region [⟨(some 4), .move (.const (.bool false)), none, 0, false⟩])
 (.seq (.region [⟨(some 5), .move (.tmp 0), none, 0, false⟩,
 ⟨(some 6), .move (.tmp 1), none, 0, false⟩,
 ⟨(some 7), .call (.func 259) [(.tmp 5), (.tmp 6)], none, 0, false⟩,
 ⟨(some 8), .bin .geq (.tmp 7) (.const (.int .i64 0)), none, 0, false⟩,
 ⟨(some 4), .move (.tmp 8), none, 0, false⟩])
 .ret))⟩

def L238 : LFunc := ⟨8, [.tmp 3],
 (.seq (.region [⟨(some 2), .box 13 34 (.tmp 0), none, 0, false⟩,
 ⟨(some 3), .move (.const (.bool false)), none, 0, false⟩])
 (.seq (.region [⟨(some 4), .load1 (.tmp 1), none, 0, false⟩,
 ⟨(some 5), .fieldAddr 0 (.tmp 2), none, 0, false⟩,
 ⟨(some 6), .load1 (.tmp 5), none, 0, false⟩,
 ⟨(some 7), .call (.func 116) [(.tmp 4), (.tmp 6)], none, 0, false⟩,
 ⟨(some 3), .move (.tmp 7), none, 0, false⟩])
 .ret))⟩

def L239 : LFunc := ⟨26, [.tmp 4],
 (.seq (.region [⟨(some 4), .move (.const (.bool false)), none, 0, false⟩])
 (.seq (.seq (.region [⟨(some 6), .move (.tmp 0), none, 0, false⟩,
 ⟨(some 7), .len false (.tmp 6), none, 0, false⟩,
 ⟨(some 8), .move (.tmp 1), none, 0, false⟩,
 ⟨(some 9), .len false (.tmp 8), none, 0, false⟩,
 ⟨(some 10), .bin .neq (.tmp 7) (.tmp 9), none, 0, false⟩])
 (.cond (.tmp 10) (.seq (.region [⟨(some 4), .move (.const (.bool false)), none, 0, false⟩])
 .ret)
 .skip))
 (.seq (.seq (.region [⟨(some 11), .move (.tmp 0), none, 0, false⟩,
 ⟨(some 12), .len false (.tmp 11), none, 0, false⟩,
 ⟨(some 13), .move (.const (.int .i64 0)), none, 0, false⟩])
 (.block 0 (.loop (.seq (.region [⟨(some 14), .bin .lss (.tmp 13) (.tmp 12), none, 0, false⟩])
 (.seq (.cond (.tmp 14) .skip
 (.exit 0))
 (.seq (.block 1 (.seq (.region [⟨(some 15), .move (.tmp 13), none, 0, false⟩,
 ⟨(some 5), .move (.tmp 15), none, 0, false⟩])
 (.seq (.draw [⟨(some 16), .move (.tmp 0), none, 0, false⟩,
 ⟨(some 17), .move (.tmp 5), none, 0, false⟩,
 ⟨(some 18), .indexAddr 13 (.tmp 16) (.tmp 17), none, 0, false⟩,
 ⟨(some 19), .loadN 13 (.tmp 18), none, 0, false⟩,
 ⟨(some 20), .move (.tmp 1), none, 0, false⟩,
 ⟨(some 21), .move (.tmp 5), none, 0, false⟩,
 ⟨(some 22), .indexAddr 13 (.tmp 20) (.tmp 21), none, 0, false⟩,
 ⟨(some 23), .loadN 13 (.tmp 22), none, 0, false⟩,
 ⟨(some 24), .eq true (.agg [(0, .n), (1, .n), (2, .n), (3, .n), (4, .n), (5, .n), (6, .n), (7, .n), (8, .n), (9, .n), (10, .n), (11, .n), (12, .n)]) (.tmp 19) (.tmp 23), none, 0, false⟩])
 (.cond (.tmp 24) (.seq (.region [⟨(some 4), .move (.const (.bool false)), none, 0, false⟩])
 .ret)
 .skip))))
 (.region [⟨(some 25), .bin .add (.tmp 13) (.const (.int .i64 1)), none, 0, false⟩,
 ⟨(some 13), .move (.tmp 25), none, 0, false⟩])))))))
 (.seq (.region [⟨(some 4), .move (.const (.bool true)), none, 0, false⟩])
 .ret))))⟩

def L240 : LFunc := ⟨26, [.tmp 4],
 (.seq (.region [⟨(some 4), .move (.const (.bool false)), none, 0, false⟩])
 (.seq (.seq (.region [⟨(some 6), .move (.tmp 0), none, 0, false⟩,
 ⟨(some 7), .len false (.tmp 6), none, 0, false⟩,
 ⟨(some 8), .move (.tmp 1), none, 0, false⟩,
 ⟨(some 9), .len false (.tmp 8), none, 0, false⟩,
 ⟨(some 10), .bin .neq (.tmp 7) (.tmp 9), none, 0, false⟩])
 (.cond (.tmp 10) (.seq (.region [⟨(some 4), .move (.const (.bool false)), none, 0, false⟩])
 .ret)
 .skip))
 (.seq (.seq (.region [⟨(some 11), .move (.tmp 0), none, 0, false⟩,
 ⟨(some 12), .len false (.tmp 11), none, 0, false⟩,
 ⟨(some 13), .move (.const (.int .i64 0)), none, 0, false⟩])
 (.block 0 (.loop (.seq (.region [⟨(some 14), .bin .lss (.tmp 13) (.tmp 12), none, 0, false⟩])
 (.seq (.cond (.tmp 14) .skip
 (.exit 0))
 (.seq (.block 1 (.seq (.region [⟨(some 15), .move (.tmp 13), none, 0, false⟩,
 ⟨(some 5), .move (.tmp 15), none, 0, false⟩])
 (.seq (.draw [⟨(some 16), .move (.tmp 0), none, 0, false⟩,
 ⟨(some 17), .move (.tmp 5), none, 0, false⟩,
 ⟨(some 18), .indexAddr 1 (.tmp 16) (.tmp 17), none, 0, false⟩,
 ⟨(some 19), .load1 (.tmp 18), none, 0, false⟩,
 ⟨(some 20), .move (.tmp 1), none, 0, false⟩,
 ⟨(some 21), .move (.tmp 5), none, 0, false⟩,
 ⟨(some 22), .indexAddr 1 (.tmp 20) (.tmp 21), none, 0, false⟩,
 ⟨(some 23), .load1 (.tmp 22), none, 0, false⟩,
 ⟨(some 24), .bin .neq (.tmp 19) (.tmp 23), none, 0, false⟩])
 (.cond (.tmp 24) (.seq (.region [⟨(some 4), .move (.const (.bool false)), none, 0, false⟩])
 .ret)
 .skip))))
 (.region [⟨(some 25), .bin .add (.tmp 13) (.const (.int .i64 1)), none, 0, false⟩,
 ⟨(some 13), .move (.tmp 25), none, 0, false⟩])))))))
 (.seq (.region [⟨(some 4), .move (.const (.bool true)), none, 0, false⟩])
 .ret))))⟩

def L241 : LFunc := ⟨9, [.tmp 3],
 (.seq (.region [⟨(some 2), .box 14 185 (.tmp 0), none, 0, false⟩,
 ⟨(some 3), .move (.const (.bool false)), none, 0, false⟩])
 (.seq (.region [⟨(some 4), .fieldAddr 0 (.tmp 2), none, 0, false⟩,
 ⟨(some 5), .fieldAddr 0 (.tmp 4), none, 0, false⟩,
 ⟨(some 6), .load1 (.tmp 5), none, 0, false⟩,
 ⟨(some 7), .load1 (.tmp 1), none, 0, false⟩,
 ⟨(some 8), .bin .eql (.tmp 6) (.tmp 7), none, 0, false⟩,
 ⟨(some 3), .move (.tmp 8), none, 0, false⟩])
 .ret))⟩

def L242 : LFunc := ⟨148, [],
 (.seq (.region [⟨(some 10), .move (.const (.bool true)), none, 0, false⟩])
 (.seq (.region [⟨(some 11), .move (.const (.bool true)), none, 0, false⟩])
 (.block 0 (.loop (.block 1 (.seq (.region [⟨(some 21), .move (.tmp 2), none, 0, false⟩,
 ⟨(some 22), .move (.tmp 1), none, 0, false⟩,
 ⟨(some 23), .bin .sub (.tmp 21) (.tmp 22), none, 0, false⟩,
 ⟨(some 12), .move (.tmp 23), none, 0, false⟩])
 (.seq (.seq (.region [⟨(some 24), .move (.tmp 12), none, 0, false⟩,
 ⟨(some 25), .bin .leq (.tmp 24) (.const (.int .i64 12)), none, 0, false⟩])
 (.cond (.tmp 25) (.seq (.region [⟨(some 26), .move (.tmp 0), none, 0, false⟩,
 ⟨(some 27), .move (.tmp 1), none, 0, false⟩,
 ⟨(some 28), .move (.tmp 2), none, 0, false⟩,
 ⟨(some 29), .move (.tmp 4), none, 0, false⟩,
 ⟨(some 30), .call (.func 260) [(.tmp 26), (.tmp 27), (.tmp 28), (.tmp 29)], none, 0, false⟩])
 .ret)
 .skip))
 (.seq (.seq (.region [⟨(some 31), .move (.tmp 3), none, 0, false⟩,
 ⟨(some 32), .bin .eql (.tmp 31) (.const (.int .i64 0)), none, 0, false⟩])
 (.cond (.tmp 32) (.seq (.region [⟨(some 33), .move (.tmp 0), none, 0, false⟩,
 ⟨(some 34), .move (.tmp 1), none, 0, false⟩,
 ⟨(some 35), .move (.tmp 2), none, 0, false⟩,
 ⟨(some 36), .move (.tmp 4), none, 0, false⟩,
 ⟨(some 37), .call (.func 261) [(.tmp 33), (.tmp 34), (.tmp 35), (.tmp 36)], none, 0, false⟩])
 .ret)
 .skip))
 (.seq (.seq (.region [⟨(some 38), .move (.tmp 10), none, 0, false⟩,
 ⟨(some 39), .un .not (.tmp 38), none, 0, false⟩])
 (.cond (.tmp 39) (.seq (.region [⟨(some 40), .move (.tmp 0), none, 0, false⟩,
 ⟨(some 41), .move (.tmp 1), none, 0, false⟩,
 ⟨(some 42), .move (.tmp 2), none, 0, false⟩,
 ⟨(some 43), .move (.tmp 4), none, 0, false⟩,
 ⟨(some 44), .call (.func 262) [(.tmp 40), (.tmp 41), (.tmp 42), (.tmp 43)], none, 0, false⟩])
 (.region [⟨(some 45), .move (.tmp 3), none, 0, false⟩,
 ⟨(some 46), .bin .sub (.tmp 45) (.const (.int .i64 1)), none, 0, false⟩,
 ⟨(some 3), .move (.tmp 46), none, 0, false⟩]))
 .skip))
 (.seq (.region [⟨(some 48), .move (.tmp 0), none, 0, false⟩,
 ⟨(some 49), .move (.tmp 1), none, 0, false⟩,
 ⟨(some 50), .move (.tmp 2), none, 0, false⟩,
 ⟨(some 51), .move (.tmp 4), none, 0, false⟩,
 ⟨(some 52), .call (.func 263) [(.tmp 48), (.tmp 49), (.tmp 50), (.tmp 51)], none, 0, false⟩,
 ⟨(some 47), .move (.tmp 52), none, 0, false⟩,
 ⟨(some 53), .extract (.tmp 47) 0, none, 0, false⟩,
 ⟨(some 54), .extract (.tmp 47) 1, none, 0, false⟩,
 ⟨(some 13), .move (.tmp 53), none, 0, false⟩,
 ⟨(some 14), .move (.tmp 54), none, 0, false⟩])
 (.seq (.seq (.region [⟨(some 55), .move (.tmp 14), none, 0, false⟩,
 ⟨(some 56), .bin .eql (.tmp 55) (.const (.int .i64 2)), none, 0, false⟩])
 (.cond (.tmp 56) (.seq (.region [⟨(some 57), .move (.tmp 0), none, 0, false⟩,
 ⟨(some 58), .move (.tmp 1), none, 0, false⟩,
 ⟨(some 59), .move (.tmp 2), none, 0, false⟩,
 ⟨(some 60), .move (.tmp 4), none, 0, false⟩,
 ⟨(some 61), .call (.func 264) [(.tmp 57), (.tmp 58), (.tmp 59), (.tmp 60)], none, 0, false⟩])
 (.seq (.region [⟨(some 62), .move (.tmp 2), none, 0, false⟩,
 ⟨(some 63), .bin .sub (.tmp 62) (.const (.int .i64 1)), none, 0, false⟩,
 ⟨(some 64), .move (.tmp 13), none, 0, false⟩,
 ⟨(some 65), .move (.tmp 1), none, 0, false⟩,
 ⟨(some 66), .bin .sub (.tmp 64) (.tmp 65), none, 0, false⟩,
 ⟨(some 67), .bin .sub (.tmp 63) (.tmp 66), none, 0, false⟩,
 ⟨(some 13), .move (.tmp 67), none, 0, false⟩])
 (.region [⟨(some 14), .move (.const (.int .i64 1)), none, 0, false⟩])))
 .skip))
 (.seq (.seq (.region [⟨(some 68), .move (.tmp 10), none, 0, false⟩,
 ⟨(some 69), .move (.tmp 68), none, 0, false⟩,
 ⟨(some 70), .move (.tmp 11), (some (69, true)), 0, false⟩,
 ⟨(some 71), .pick (.tmp 69) (.tmp 70) (.const (.bool false)), none, 0, false⟩,
 ⟨(some 72), .move (.tmp 71), none, 0, false⟩,
 ⟨(some 73), .move (.tmp 14), (some (72, true)), 0, false⟩,
 ⟨(some 74), .bin .eql (.tmp 73) (.const (.int .i64 1)), (some (72, true)), 0, false⟩,
 ⟨(some 75), .pick (.tmp 72) (.tmp 74) (.const (.bool false)), none, 0, false⟩])
 (.cond (.tmp 75) (.seq (.region [⟨(some 76), .move (.tmp 0), none, 0, false⟩,
 ⟨(some 77), .move (.tmp 1), none, 0, false⟩,
 ⟨(some 78), .move (.tmp 2), none, 0, false⟩,
 ⟨(some 79), .move (.tmp 4), none, 0, false⟩,
 ⟨(some 80), .call (.func 265) [(.tmp 76), (.tmp 77), (.tmp 78), (.tmp 79)], none, 0, false⟩])
 (.cond (.tmp 80) .ret
 .skip))
 .skip))
 (.seq (.seq (.draw [⟨(some 81), .move (.tmp 1), none, 0, false⟩,
 ⟨(some 82), .bin .gtr (.tmp 81) (.const (.int .i64 0)), none, 0, false⟩,
 ⟨(some 83), .move (.tmp 82), none, 0, false⟩,
 ⟨(some 84), .move (.tmp 4), (some (83, true)), 0, false⟩,
 ⟨(some 85), .move (.tmp 0), (some (83, true)), 0, false⟩,
 ⟨(some 86), .move (.tmp 1), (some (83, true)), 0, false⟩,
 ⟨(some 87), .bin .sub (.tmp 86) (.const (.int .i64 1)), (some (83, true)), 0, false⟩,
 ⟨(some 88), .indexAddr 14 (.tmp 85) (.tmp 87), (some (83, true)), 0, false⟩,
 ⟨(some 89), .loadN 14 (.tmp 88), (some (83, true)), 0, false⟩,
 ⟨(some 90), .move (.tmp 0), (some (83, true)), 0, false⟩,
 ⟨(some 91), .move (.tmp 13), (some (83, true)), 0, false⟩,
 ⟨(some 92), .indexAddr 14 (.tmp 90) (.tmp 91), (some (83, true)), 0, false⟩,
 ⟨(some 93), .loadN 14 (.tmp 92), (some (83, true)), 0, false⟩,
 ⟨(some 94), .call (.tmp 84) [(.tmp 89), (.tmp 93)], (some (83, true)), 0, true⟩,
 ⟨(some 95), .bin .lss (.tmp 94) (.const (.int .i64 0)), (some (83, true)), 1, false⟩,
 ⟨(some 96), .un .not (.tmp 95), (some (83, true)), 1, false⟩,
 ⟨(some 97), .pick (.tmp 83) (.tmp 96) (.const (.bool false)), none, 1, false⟩])
 (.cond (.tmp 97) (.seq (.region [⟨(some 98), .move (.tmp 0), none, 0, false⟩,
 ⟨(some 99), .move (.tmp 1), none, 0, false⟩,
 ⟨(some 100), .move (.tmp 2), none, 0, false⟩,
 ⟨(some 101), .move (.tmp 13), none, 0, false⟩,
 ⟨(some 102), .move (.tmp 4), none, 0, false⟩,
 ⟨(some 103), .call (.func 266) [(.tmp 98), (.tmp 99), (.tmp 100), (.tmp 101), (.tmp 102)], none, 0, false⟩,
 ⟨(some 15), .move (.tmp 103), none, 0, false⟩])
 (.seq (.region [⟨(some 104), .move (.tmp 15), none, 0, false⟩,
 ⟨(some 1), .move (.tmp 104), none, 0, false⟩])
 (.exit 1)))
 .skip))
 (.seq (.region [⟨(some 106), .move (.tmp 0), none, 0, false⟩,
 ⟨(some 107), .move (.tmp 1), none, 0, false⟩,
 ⟨(some 108), .move (.tmp 2), none, 0, false⟩,
 ⟨(some 109), .move (.tmp 13), none, 0, false⟩,
 ⟨(some 110), .move (.tmp 4), none, 0, false⟩,
 ⟨(some 111), .call (.func 267) [(.tmp 106), (.tmp 107), (.tmp 108), (.tmp 109), (.tmp 110)], none, 0, false⟩,
 ⟨(some 105), .move (.tmp 111), none, 0, false⟩,
 ⟨(some 112), .extract (.tmp 105) 0, none, 0, false⟩,
 ⟨(some 113), .extract (.tmp 105) 1, none, 0, false⟩,
 ⟨(some 16), .move (.tmp 112), none, 0, false⟩,
 ⟨(some 17), .move (.tmp 113), none, 0, false⟩])
 (.seq (.region [⟨(some 114), .move (.tmp 17), none, 0, false⟩,
 ⟨(some 11), .move (.tmp 114), none, 0, false⟩])
 (.seq (.region [⟨(some 115), .move (.tmp 16), none, 0, false⟩,
 ⟨(some 116), .move (.tmp 1), none, 0, false⟩,
 ⟨(some 117), .bin .sub (.tmp 115) (.tmp 116), none, 0, false⟩,
 ⟨(some 118), .move (.tmp 2), none, 0, false⟩,
 ⟨(some 119), .move (.tmp 16), none, 0, false⟩,
 ⟨(some 120), .bin .sub (.tmp 118) (.tmp 119), none, 0, false⟩,
 ⟨(some 18), .move (.tmp 117), none, 0, false⟩,
 ⟨(some 19), .move (.tmp 120), none, 0, false⟩])
 (.seq (.region [⟨(some 121), .move (.tmp 12), none, 0, false⟩,
 ⟨(some 122), .bin .quo (.tmp 121) (.const (.int .i64 8)), none, 0, false⟩,
 ⟨(some 20), .move (.tmp 122), none, 0, false⟩])
 (.seq (.region [⟨(some 123), .move (.tmp 18), none, 0, false⟩,
 ⟨(some 124), .move (.tmp 19), none, 0, false⟩,
 ⟨(some 125), .bin .lss (.tmp 123) (.tmp 124), none, 0, false⟩])
 (.cond (.tmp 125) (.seq (.region [⟨(some 126), .move (.tmp 18), none, 0, false⟩,
 ⟨(some 127), .move (.tmp 20), none, 0, false⟩,
 ⟨(some 128), .bin .geq (.tmp 126) (.tmp 127), none, 0, false⟩,
 ⟨(some 10), .move (.tmp 128), none, 0, false⟩])
 (.seq (.region [⟨(some 129), .move (.tmp 0), none, 0, false⟩,
 ⟨(some 130), .move (.tmp 1), none, 0, false⟩,
 ⟨(some 131), .move (.tmp 16), none, 0, false⟩,
 ⟨(some 132), .move (.tmp 3), none, 0, false⟩,
 ⟨(some 133), .move (.tmp 4), none, 0, false⟩,
 ⟨(some 134), .call (.func 242) [(.tmp 129), (.tmp 130), (.tmp 131), (.tmp 132), (.tmp 133)], none, 0, false⟩])
 (.region [⟨(some 135), .move (.tmp 16), none, 0, false⟩,
 ⟨(some 136), .bin .add (.tmp 135) (.const (.int .i64 1)), none, 0, false⟩,
 ⟨(some 1), .move (.tmp 136), none, 0, false⟩])))
 (.seq (.region [⟨(some 137), .move (.tmp 19), none, 0, false⟩,
 ⟨(some 138), .move (.tmp 20), none, 0, false⟩,
 ⟨(some 139), .bin .geq (.tmp 137) (.tmp 138), none, 0, false⟩,
 ⟨(some 10), .move (.tmp 139), none, 0, false⟩])
 (.seq (.region [⟨(some 140), .move (.tmp 0), none, 0, false⟩,
 ⟨(some 141), .move (.tmp 16), none, 0, false⟩,
 ⟨(some 142), .bin .add (.tmp 141) (.const (.int .i64 1)), none, 0, false⟩,
 ⟨(some 143), .move (.tmp 2), none, 0, false⟩,
 ⟨(some 144), .move (.tmp 3), none, 0, false⟩,
 ⟨(some 145), .move (.tmp 4), none, 0, false⟩,
 ⟨(some 146), .call (.func 242) [(.tmp 140), (.tmp 142), (.tmp 143), (.tmp 144), (.tmp 145)], none, 0, false⟩])
 (.region [⟨(some 147), .move (.tmp 16), none, 0, false⟩,
 ⟨(some 2), .move (.tmp 147), none, 0, false⟩]))))))))))))))))))))))⟩

def L243 : LFunc := ⟨8, [.tmp 2],
 (.seq (.region [⟨(some 2), .move (.const (.int .i64 0)), none, 0, false⟩])
 (.seq (.cond (.const (.bool false)) (.seq (.region [⟨(some 3), .move (.tmp 0), none, 0, false⟩,
 ⟨(some 4), .conv (.int .u32) (.tmp 3), none, 0, false⟩,
 ⟨(some 5), .call (.func 268) [(.tmp 4)], none, 0, false⟩,
 ⟨(some 2), .move (.tmp 5), none, 0, false⟩])
 .ret)
 .skip)
 (.seq (.region [⟨(some 6), .move (.tmp 0), none, 0, false⟩,
 ⟨(some 7), .call (.func 194) [(.tmp 6)], none, 0, false⟩,
 ⟨(some 2), .move (.tmp 7), none, 0, false⟩])
 .ret)))⟩

def L244 : LFunc := ⟨6, [.tmp 2],
 (.seq (.region [⟨(some 2), .move (.const (.bool false)), none, 0, false⟩])
 (.seq (.region [⟨(some 3), .move (.tmp 0), none, 0, false⟩,
 ⟨(some 4), .move (.tmp 0), none, 0, false⟩,
 ⟨(some 5), .bin .neq (.tmp 3) (.tmp 4), none, 0, false⟩,
 ⟨(some 2), .move (.tmp 5), none, 0, false⟩])
 .ret))⟩

def L245 : LFunc := ⟨15, [.tmp 2],
 (.seq (.region [⟨(some 2), .move (.const (.slice none 0 0)), none, 0, false⟩])
 (.seq (.region [⟨(some 3), .move (.tmp 0), none, 0, false⟩,
 ⟨(some 4), .bin .shr (.tmp 3) (.const (.int .u64 24)), none, 0, false⟩,
 ⟨(some 5), .conv (.int .u8) (.tmp 4), none, 0, false⟩,
 ⟨(some 6), .move (.tmp 0), none, 0, false⟩,
 ⟨(some 7), .bin .shr (.tmp 6) (.const (.int .u64 16)), none, 0, false⟩,
 ⟨(some 8), .conv (.int .u8) (.tmp 7), none, 0, false⟩,
 ⟨(some 9), .move (.tmp 0), none, 0, false⟩,
 ⟨(some 10), .bin .shr (.tmp 9) (.const (.int .u64 8)), none, 0, false⟩,
 ⟨(some 11), .conv (.int .u8) (.tmp 10), none, 0, false⟩,
 ⟨(some 12), .move (.tmp 0), none, 0, false⟩,
 ⟨(some 13), .conv (.int .u8) (.tmp 12), none, 0, false⟩,
 ⟨(some 14), .buildSlice 4 1 5 [(.int .u8 0), (.int .u8 0), (.int .u8 0), (.int .u8 0)] [(0, 1, (.tmp 5)), (1, 1, (.tmp 8)), (2, 1, (.tmp 11)), (3, 1, (.tmp 13))], none, 0, false⟩,
 ⟨(some 2), .move (.tmp 14), none, 0, false⟩])
 .ret))⟩

def L246 : LFunc := ⟨17, [.tmp 2],
 (.seq (.region [⟨(some 2), .move (.const (.int .u32 0)), none, 0, false⟩])
 (.seq (.region [⟨(some 3), .move (.const (.int .u32 0)), none, 0, false⟩])
 (.seq (.seq (.region [⟨(some 6), .move (.tmp 0), none, 0, false⟩,
 ⟨(some 7), .len false (.tmp 6), none, 0, false⟩,
 ⟨(some 8), .move (.const (.int .i64 0)), none, 0, false⟩])
 (.block 0 (.loop (.seq (.region [⟨(some 9), .bin .lss (.tmp 8) (.tmp 7), none, 0, false⟩])
 (.seq (.cond (.tmp 9) .skip
 (.exit 0))
 (.seq (.block 1 (.seq (.region [⟨(some 10), .indexAddr 1 (.tmp 6) (.tmp 8), none, 0, false⟩,
 ⟨(some 11), .load1 (.tmp 10), none, 0, false⟩,
 ⟨(some 5), .move (.tmp 11), none, 0, false⟩])
 (.region [⟨(some 12), .move (.tmp 3), none, 0, false⟩,
 ⟨(some 13), .move (.tmp 5), none, 0, false⟩,
 ⟨(some 14), .call (.func 269) [(.tmp 12), (.tmp 13)], none, 0, false⟩,
 ⟨(some 3), .move (.tmp 14), none, 0, false⟩])))
 (.region [⟨(some 15), .bin .add (.tmp 8) (.const (.int .i64 1)), none, 0, false⟩,
 ⟨(some 8), .move (.tmp 15), none, 0, false⟩])))))))
 (.seq (.region [⟨(some 16), .move (.tmp 3), none, 0, false⟩,
 ⟨(some 2), .move (.tmp 16), none, 0, false⟩])
 .ret))))⟩

def L247 : LFunc := ⟨4, [.tmp 2],
 (.seq (.region [⟨(some 1), .box 1 22 (.tmp 0), none, 0, false⟩,
 ⟨(some 2), .move (.const .nilFunc), none, 0, false⟩])
 (.seq (.region [⟨(some 3), .mkFunc (.func 270) [] [(.tmp 1)], none, 0, false⟩,
 ⟨(some 2), .move (.tmp 3), none, 0, false⟩])
 .ret))⟩

def L248 : LFunc := ⟨38, [.cellN 4 64, .tmp 5],
 (.seq (.region [⟨(some 4), .alloc [(.int .u8 0), (.int .u8 0), (.int .u8 0), (.int .u8 0), (.int .u8 0), (.int .u8 0), (.int .u8 0), (.int .u8 0), (.int .u8 0), (.int .u8 0), (.int .u8 0), (.int .u8 0), (.int .u8 0), (.int .u8 0), (.int .u8 0), (.int .u8 0), (.int .u8 0), (.int .u8 0), (.int .u8 0), (.int .u8 0), (.int .u8 0), (.int .u8 0), (.int .u8 0), (.int .u8 0), (.int .u8 0), (.int .u8 0), (.int .u8 0), (.int .u8 0), (.int .u8 0), (.int .u8 0), (.int .u8 0), (.int .u8 0), (.int .u8 0), (.int .u8 0), (.int .u8 0), (.int .u8 0), (.int .u8 0), (.int .u8 0), (.int .u8 0), (.int .u8 0), (.int .u8 0), (.int .u8 0), (.int .u8 0), (.int .u8 0), (.int .u8 0), (.int .u8 0), (.int .u8 0), (.int .u8 0), (.int .u8 0), (.int .u8 0), (.int .u8 0), (.int .u8 0), (.int .u8 0), (.int .u8 0), (.int .u8 0), (.int .u8 0), (.int .u8 0), (.int .u8 0), (.int .u8 0), (.int .u8 0), (.int .u8 0), (.int .u8 0), (.int .u8 0), (.int .u8 0)] 262, none, 0, false⟩,
 ⟨(some 5), .move (.const (.int .i64 0)), none, 0, false⟩])
 (.seq (.region [⟨(some 11), .move (.tmp 0), none, 0, false⟩,
 ⟨(some 12), .move (.tmp 1), none, 0, false⟩,
 ⟨(some 13), .call (.func 271) [(.tmp 11), (.tmp 12)], none, 0, false⟩,
 ⟨(some 10), .move (.tmp 13), none, 0, false⟩,
 ⟨(some 14), .extract (.tmp 10) 0, none, 0, false⟩,
 ⟨(some 15), .extract (.tmp 10) 1, none, 0, false⟩,
 ⟨(some 6), .alloc [(.int .u8 0), (.int .u8 0), (.int .u8 0), (.int .u8 0), (.int .u8 0), (.int .u8 0), (.int .u8 0), (.int .u8 0), (.int .u8 0), (.int .u8 0), (.int .u8 0), (.int .u8 0), (.int .u8 0), (.int .u8 0), (.int .u8 0), (.int .u8 0), (.int .u8 0), (.int .u8 0), (.int .u8 0), (.int .u8 0), (.int .u8 0), (.int .u8 0), (.int .u8 0), (.int .u8 0), (.int .u8 0), (.int .u8 0), (.int .u8 0), (.int .u8 0), (.int .u8 0), (.int .u8 0), (.int .u8 0), (.int .u8 0), (.int .u8 0), (.int .u8 0), (.int .u8 0), (.int .u8 0), (.int .u8 0), (.int .u8 0), (.int .u8 0), (.int .u8 0), (.int .u8 0), (.int .u8 0), (.int .u8 0), (.int .u8 0), (.int .u8 0), (.int .u8 0), (.int .u8 0), (.int .u8 0), (.int .u8 0), (.int .u8 0), (.int .u8 0), (.int .u8 0), (.int .u8 0), (.int .u8 0), (.int .u8 0), (.int .u8 0), (.int .u8 0), (.int .u8 0), (.int .u8 0), (.int .u8 0), (.int .u8 0), (.int .u8 0), (.int .u8 0), (.int .u8 0)] 262, none, 0, false⟩,
 ⟨none, .store 64 (.tmp 6) (.tmp 14), none, 0, false⟩,
 ⟨(some 7), .move (.tmp 15), none, 0, false⟩])
 (.seq (.seq (.region [⟨(some 16), .move (.tmp 0), none, 0, false⟩,
 ⟨(some 17), .nilCheck (.tmp 16), none, 0, false⟩,
 ⟨(some 18), .fieldAddr 1 (.tmp 17), none, 0, false⟩,
 ⟨(some 19), .load1 (.tmp 18), none, 0, false⟩,
 ⟨(some 20), .len false (.tmp 19), none, 0, false⟩,
 ⟨(some 21), .move (.const (.int .i64 0)), none, 0, false⟩])
 (.block 0 (.loop (.seq (.region [⟨(some 22), .bin .lss (.tmp 21) (.tmp 20), none, 0, false⟩])
 (.seq (.cond (.tmp 22) .skip
 (.exit 0))
 (.seq (.block 1 (.seq (.region [⟨(some 23), .indexAddr 65 (.tmp 19) (.tmp 21), none, 0, false⟩,
 ⟨(some 24), .loadN 65 (.tmp 23), none, 0, false⟩,
 ⟨(some 9), .alloc [(.int .i64 0), (.int .u8 0), (.int .u8 0), (.int .u8 0), (.int .u8 0), (.int .u8 0), (.int .u8 0), (.int .u8 0), (.int .u8 0), (.int .u8 0), (.int .u8 0), (.int .u8 0), (.int .u8 0), (.int .u8 0), (.int .u8 0), (.int .u8 0), (.int .u8 0), (.int .u8 0), (.int .u8 0), (.int .u8 0), (.int .u8 0), (.int .u8 0), (.int .u8 0), (.int .u8 0), (.int .u8 0), (.int .u8 0), (.int .u8 0), (.int .u8 0), (.int .u8 0), (.int .u8 0), (.int .u8 0), (.int .u8 0), (.int .u8 0), (.int .u8 0), (.int .u8 0), (.int .u8 0), (.int .u8 0), (.int .u8 0), (.int .u8 0), (.int .u8 0), (.int .u8 0), (.int .u8 0), (.int .u8 0), (.int .u8 0), (.int .u8 0), (.int .u8 0), (.int .u8 0), (.int .u8 0), (.int .u8 0), (.int .u8 0), (.int .u8 0), (.int .u8 0), (.int .u8 0), (.int .u8 0), (.int .u8 0), (.int .u8 0), (.int .u8 0), (.int .u8 0), (.int .u8 0), (.int .u8 0), (.int .u8 0), (.int .u8 0), (.int .u8 0), (.int .u8 0), (.int .u8 0)] 273, none, 0, false⟩,
 ⟨none, .store 65 (.tmp 9) (.tmp 24), none, 0, false⟩])
 (.seq (.region [⟨(some 25), .move (.tmp 7), none, 0, false⟩,
 ⟨(some 26), .bin .eql (.tmp 25) (.const (.int .i64 0)), none, 0, false⟩,
 ⟨(some 27), .move (.tmp 26), none, 0, false⟩,
 ⟨(some 28), .fieldAddr 0 (.tmp 9), (some (27, true)), 0, false⟩,
 ⟨(some 29), .load1 (.tmp 28), (some (27, true)), 0, false⟩,
 ⟨(some 30), .move (.tmp 1), (some (27, true)), 0, false⟩,
 ⟨(some 31), .bin .eql (.tmp 29) (.tmp 30), (some (27, true)), 0, false⟩,
 ⟨(some 32), .pick (.tmp 27) (.tmp 31) (.const (.bool false)), none, 0, false⟩])
 (.cond (.tmp 32) (.region [⟨(some 33), .fieldAddr 1 (.tmp 9), none, 0, false⟩,
 ⟨(some 34), .loadN 64 (.tmp 33), none, 0, false⟩,
 ⟨none, .store 64 (.tmp 6) (.tmp 34), none, 0, false⟩])
 .skip))))
 (.region [⟨(some 35), .bin .add (.tmp 21) (.const (.int .i64 1)), none, 0, false⟩,
 ⟨(some 21), .move (.tmp 35), none, 0, false⟩])))))))
 (.seq (.region [⟨(some 36), .loadN 64 (.tmp 6), none, 0, false⟩,
 ⟨(some 37), .move (.tmp 7), none, 0, false⟩,
 ⟨none, .store 64 (.tmp 4) (.tmp 36), none, 0, false⟩,
 ⟨(some 5), .move (.tmp 37), none, 0, false⟩])
 .ret))))⟩

def L249 : LFunc := ⟨83, [.cellN 2 3, .tmp 3, .tmp 4],
 (.seq (.region [⟨(some 2), .alloc [(.int .u64 0), (.int .u32 0), (.slice none 0 0)] 255, none, 0, false⟩,
 ⟨(some 3), .move (.const (.int .i64 0)), none, 0, false⟩,
 ⟨(some 4), .move (.const (.bool false)), none, 0, false⟩])
 (.seq (.seq (.region [⟨(some 15), .move (.tmp 0), none, 0, false⟩,
 ⟨(some 16), .len false (.tmp 15), none, 0, false⟩,
 ⟨(some 17), .bin .eql (.tmp 16) (.const (.int .i64 0)), none, 0, false⟩])
 (.cond (.tmp 17) (.seq (.region [⟨(some 18), .build [(.int .u64 0), (.int .u32 0), (.slice none 0 0)] [], none, 0, false⟩,
 ⟨none, .store 3 (.tmp 2) (.tmp 18), none, 0, false⟩,
 ⟨(some 3), .move (.const (.int .i64 0)), none, 0, false⟩,
 ⟨(some 4), .move (.const (.bool false)), none, 0, false⟩])
 .ret)
 .skip))
 (.seq (.region [⟨(some 19), .move (.tmp 0), none, 0, false⟩,
 ⟨(some 20), .indexAddr 64 (.tmp 19) (.const (.int .i64 0)), none, 0, false⟩,
 ⟨(some 21), .sliceArr 64 1 (.tmp 20) none (some (.const (.int .i64 2))) none, none, 0, false⟩,
 ⟨(some 22), .call (.func 272) [(.tmp 21)], none, 0, false⟩,
 ⟨(some 23), .conv (.int .i64) (.tmp 22), none, 0, false⟩,
 ⟨(some 5), .move (.tmp 23), none, 0, false⟩])
 (.seq (.region [⟨(some 24), .move (.tmp 5), none, 0, false⟩,
 ⟨(some 25), .call (.func 213) [(.tmp 24)], none, 0, false⟩,
 ⟨(some 6), .move (.tmp 25), none, 0, false⟩])
 (.seq (.seq (.region [⟨(some 26), .move (.tmp 6), none, 0, false⟩,
 ⟨(some 27), .bin .eql (.tmp 26) (.const (.int .i64 0)), none, 0, false⟩,
 ⟨(some 28), .move (.tmp 27), none, 0, false⟩,
 ⟨(some 29), .move (.tmp 6), (some (28, false)), 0, false⟩,
 ⟨(some 30), .move (.tmp 0), (some (28, false)), 0, false⟩,
 ⟨(some 31), .len false (.tmp 30), (some (28, false)), 0, false⟩,
 ⟨(some 32), .bin .gtr (.tmp 29) (.tmp 31), (some (28, false)), 0, false⟩,
 ⟨(some 33), .pick (.tmp 28) (.const (.bool true)) (.tmp 32), none, 0, false⟩])
 (.cond (.tmp 33) (.seq (.region [⟨(some 34), .build [(.int .u64 0), (.int .u32 0), (.slice none 0 0)] [], none, 0, false⟩,
 ⟨none, .store 3 (.tmp 2) (.tmp 34), none, 0, false⟩,
 ⟨(some 3), .move (.const (.int .i64 0)), none, 0, false⟩,
 ⟨(some 4), .move (.const (.bool false)), none, 0, false⟩])
 .ret)
 .skip))
 (.seq (.region [⟨(some 7), .move (.const (.slice none 0 0)), none, 0, false⟩])
 (.seq (.seq (.region [⟨(some 35), .move (.tmp 0), none, 0, false⟩,
 ⟨(some 36), .move (.tmp 6), none, 0, false⟩,
 ⟨(some 37), .slice 64 (.tmp 35) none (some (.tmp 36)) none, none, 0, false⟩,
 ⟨(some 38), .len false (.tmp 37), none, 0, false⟩,
 ⟨(some 39), .move (.const (.int .i64 0)), none, 0, false⟩])
 (.block 0 (.loop (.seq (.region [⟨(some 40), .bin .lss (.tmp 39) (.tmp 38), none, 0, false⟩])
 (.seq (.cond (.tmp 40) .skip
 (.exit 0))
 (.seq (.block 1 (.seq (.region [⟨(some 41), .indexAddr 64 (.tmp 37) (.tmp 39), none, 0, false⟩,
 ⟨(some 42), .loadN 64 (.tmp 41), none, 0, false⟩,
 ⟨(some 9), .alloc [(.int .u8 0), (.int .u8 0), (.int .u8 0), (.int .u8 0), (.int .u8 0), (.int .u8 0), (.int .u8 0), (.int .u8 0), (.int .u8 0), (.int .u8 0), (.int .u8 0), (.int .u8 0), (.int .u8 0), (.int .u8 0), (.int .u8 0), (.int .u8 0), (.int .u8 0), (.int .u8 0), (.int .u8 0), (.int .u8 0), (.int .u8 0), (.int .u8 0), (.int .u8 0), (.int .u8 0), (.int .u8 0), (.int .u8 0), (.int .u8 0), (.int .u8 0), (.int .u8 0), (.int .u8 0), (.int .u8 0), (.int .u8 0), (.int .u8 0), (.int .u8 0), (.int .u8 0), (.int .u8 0), (.int .u8 0), (.int .u8 0), (.int .u8 0), (.int .u8 0), (.int .u8 0), (.int .u8 0), (.int .u8 0), (.int .u8 0), (.int .u8 0), (.int .u8 0), (.int .u8 0), (.int .u8 0), (.int .u8 0), (.int .u8 0), (.int .u8 0), (.int .u8 0), (.int .u8 0), (.int .u8 0), (.int .u8 0), (.int .u8 0), (.int .u8 0), (.int .u8 0), (.int .u8 0), (.int .u8 0), (.int .u8 0), (.int .u8 0), (.int .u8 0), (.int .u8 0)] 262, none, 0, false⟩,
 ⟨none, .store 64 (.tmp 9) (.tmp 42), none, 0, false⟩])
 (.region [⟨(some 43), .move (.tmp 7), none, 0, false⟩,
 ⟨(some 44), .sliceArr 64 1 (.tmp 9) none none none, none, 0, false⟩,
 ⟨(some 45), .append 1 1 5 [(.int .u8 0)] false (.tmp 43) (.tmp 44), none, 0, false⟩,
 ⟨(some 7), .move (.tmp 45), none, 0, false⟩])))
 (.region [⟨(some 46), .bin .add (.tmp 39) (.const (.int .i64 1)), none, 0, false⟩,
 ⟨(some 39), .move (.tmp 46), none, 0, false⟩])))))))
 (.seq (.region [⟨(some 47), .move (.tmp 5), none, 0, false⟩,
 ⟨(some 48), .bin .add (.const (.int .i64 14)) (.tmp 47), none, 0, false⟩,
 ⟨(some 49), .bin .add (.tmp 48) (.const (.int .i64 4)), none, 0, false⟩,
 ⟨(some 10), .move (.tmp 49), none, 0, false⟩])
 (.seq (.region [⟨(some 51), .move (.tmp 7), none, 0, false⟩,
 ⟨(some 52), .move (.tmp 10), none, 0, false⟩,
 ⟨(some 53), .slice 1 (.tmp 51) none (some (.tmp 52)) none, none, 0, false⟩,
 ⟨(some 54), .call (.func 273) [(.tmp 53)], none, 0, false⟩,
 ⟨(some 50), .move (.tmp 54), none, 0, false⟩,
 ⟨(some 55), .extract (.tmp 50) 0, none, 0, false⟩,
 ⟨(some 56), .extract (.tmp 50) 1, none, 0, false⟩,
 ⟨(some 11), .move (.tmp 55), none, 0, false⟩,
 ⟨(some 12), .move (.tmp 56), none, 0, false⟩])
 (.seq (.region [⟨(some 57), .move (.tmp 7), none, 0, false⟩,
 ⟨(some 58), .move (.tmp 10), none, 0, false⟩,
 ⟨(some 59), .slice 1 (.tmp 57) (some (.tmp 58)) none none, none, 0, false⟩,
 ⟨(some 60), .call (.func 274) [(.tmp 59), (.func 275)], none, 0, false⟩,
 ⟨(some 13), .move (.tmp 60), none, 0, false⟩])
 (.seq (.seq (.region [⟨(some 61), .move (.tmp 12), none, 0, false⟩,
 ⟨(some 62), .un .not (.tmp 61), none, 0, false⟩,
 ⟨(some 63), .move (.tmp 62), none, 0, false⟩,
 ⟨(some 64), .move (.tmp 13), (some (63, false)), 0, false⟩,
 ⟨(some 65), .pick (.tmp 63) (.const (.bool true)) (.tmp 64), none, 0, false⟩])
 (.cond (.tmp 65) (.seq (.region [⟨(some 66), .build [(.int .u64 0), (.int .u32 0), (.slice none 0 0)] [], none, 0, false⟩,
 ⟨none, .store 3 (.tmp 2) (.tmp 66), none, 0, false⟩,
 ⟨(some 3), .move (.const (.int .i64 0)), none, 0, false⟩,
 ⟨(some 4), .move (.const (.bool false)), none, 0, false⟩])
 .ret)
 .skip))
 (.seq (.draw [⟨(some 67), .move (.tmp 11), none, 0, false⟩,
 ⟨(some 68), .slice 1 (.tmp 67) (some (.const (.int .i64 2))) (some (.const (.int .i64 10))) none, none, 0, false⟩,
 ⟨(some 69), .call (.func 272) [(.tmp 68)], none, 0, true⟩,
 ⟨(some 70), .move (.tmp 11), none, 0, false⟩,
 ⟨(some 71), .slice 1 (.tmp 70) (some (.const (.int .i64 10))) (some (.const (.int .i64 14))) none, none, 0, false⟩,
 ⟨(some 72), .call (.func 272) [(.tmp 71)], none, 1, true⟩,
 ⟨(some 73), .conv (.int .u32) (.tmp 72), none, 2, false⟩,
 ⟨(some 74), .move (.tmp 11), none, 0, false⟩,
 ⟨(some 75), .slice 1 (.tmp 74) (some (.const (.int .i64 14))) none none, none, 0, false⟩,
 ⟨(some 76), .build [(.int .u64 0), (.int .u32 0), (.slice none 0 0)] [(0, 1, (.tmp 69)), (1, 1, (.tmp 73)), (2, 1, (.tmp 75))], none, 2, false⟩,
 ⟨(some 14), .alloc [(.int .u64 0), (.int .u32 0), (.slice none 0 0)] 255, none, 0, false⟩,
 ⟨none, .store 3 (.tmp 14) (.tmp 76), none, 2, true⟩])
 (.seq (.seq (.region [⟨(some 77), .fieldAddr 0 (.tmp 14), none, 0, false⟩,
 ⟨(some 78), .load1 (.tmp 77), none, 0, false⟩,
 ⟨(some 79), .bin .eql (.tmp 78) (.const (.int .u64 0)), none, 0, false⟩])
 (.cond (.tmp 79) (.seq (.region [⟨(some 80), .build [(.int .u64 0), (.int .u32 0), (.slice none 0 0)] [], none, 0, false⟩,
 ⟨none, .store 3 (.tmp 2) (.tmp 80), none, 0, false⟩,
 ⟨(some 3), .move (.const (.int .i64 0)), none, 0, false⟩,
 ⟨(some 4), .move (.const (.bool false)), none, 0, false⟩])
 .ret)
 .skip))
 (.seq (.region [⟨(some 81), .loadN 3 (.tmp 14), none, 0, false⟩,
 ⟨(some 82), .move (.tmp 6), none, 0, false⟩,
 ⟨none, .store 3 (.tmp 2) (.tmp 81), none, 0, false⟩,
 ⟨(some 3), .move (.tmp 82), none, 0, false⟩,
 ⟨(some 4), .move (.const (.bool true)), none, 0, false⟩])
 .ret))))))))))))))⟩

end Go.Proofs.YteoibgeimmaejaaGreat.LN
