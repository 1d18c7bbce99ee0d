/- THE COMPILED FORMS of functions of the program, written by a program of ours; proved to be what the compiler gives. -/
import Derived.Test.YtomdpjbnddfkpaaGreatFa
namespace Go.Proofs.YtomdpjbnddfkpaaGreat.LN
open Go Go.L1
set_option maxRecDepth 100000
def L229 : LFunc := ⟨9, [.tmp 2],
 (.seq (.region [⟨(some 2), .move (.const (.int .i64 0)), none, 0, false⟩])
 (.seq (.region [⟨(some 3), .move (.tmp 0), none, 0, false⟩,
 ⟨(some 4), .call (.func 253) [(.tmp 3)], none, 0, false⟩,
 ⟨(some 5), .bin .add (.tmp 4) (.const (.int .i64 7)), none, 0, false⟩,
 ⟨(some 6), .bin .sub (.tmp 5) (.const (.int .i64 1)), none, 0, false⟩,
 ⟨(some 7), .bin .quo (.tmp 6) (.const (.int .i64 7)), none, 0, false⟩,
 ⟨(some 8), .max [(.const (.int .i64 1)), (.tmp 7)], none, 0, false⟩,
 ⟨(some 2), .move (.tmp 8), none, 0, false⟩])
 .ret))⟩

def L230 : LFunc := ⟨31, [],
 (.seq (.region [⟨(some 4), .move (.const (.int .i64 0)), none, 0, false⟩])
 (.block 0 (.loop (.seq (.seq (.region [⟨(some 6), .move (.tmp 4), none, 0, false⟩,
 ⟨(some 7), .load1 (.tmp 1), none, 0, false⟩,
 ⟨(some 8), .len false (.tmp 7), none, 0, false⟩,
 ⟨(some 9), .bin .lss (.tmp 6) (.tmp 8), none, 0, false⟩])
 (.cond (.tmp 9) .skip
 (.exit 0)))
 (.seq (.block 1 (.seq (.draw [⟨(some 13), .load1 (.tmp 2), none, 0, false⟩,
 ⟨(some 14), .load1 (.tmp 1), none, 0, false⟩,
 ⟨(some 15), .move (.tmp 4), none, 0, false⟩,
 ⟨(some 16), .slice 1 (.tmp 14) (some (.tmp 15)) none none, none, 0, false⟩,
 ⟨(some 17), .len false (.tmp 16), none, 0, false⟩,
 ⟨(some 18), .min [(.tmp 13), (.tmp 17)], none, 0, false⟩,
 ⟨(some 5), .move (.tmp 18), none, 0, false⟩])
 (.seq (.region [⟨(some 19), .move (.tmp 0), none, 0, false⟩,
 ⟨(some 20), .load1 (.tmp 1), none, 0, false⟩,
 ⟨(some 21), .move (.tmp 4), none, 0, false⟩,
 ⟨(some 22), .move (.tmp 4), none, 0, false⟩,
 ⟨(some 23), .move (.tmp 5), none, 0, false⟩,
 ⟨(some 24), .bin .add (.tmp 22) (.tmp 23), none, 0, false⟩,
 ⟨(some 25), .move (.tmp 4), none, 0, false⟩,
 ⟨(some 26), .move (.tmp 5), none, 0, false⟩,
 ⟨(some 27), .bin .add (.tmp 25) (.tmp 26), none, 0, false⟩,
 ⟨(some 28), .slice 1 (.tmp 20) (some (.tmp 21)) (some (.tmp 24)) (some (.tmp 27)), none, 0, false⟩,
 ⟨(some 29), .call (.tmp 19) [(.tmp 28)], none, 0, false⟩,
 ⟨(some 30), .un .not (.tmp 29), none, 0, false⟩])
 (.cond (.tmp 30) .ret
 .skip))))
 (.region [⟨(some 10), .move (.tmp 4), none, 0, false⟩,
 ⟨(some 11), .load1 (.tmp 2), none, 0, false⟩,
 ⟨(some 12), .bin .add (.tmp 10) (.tmp 11), none, 0, false⟩,
 ⟨(some 4), .move (.tmp 12), none, 0, false⟩]))))))⟩

def L231 : LFunc := ⟨9, [.tmp 4],
 (.seq (.region [⟨(some 4), .move (.const (.bool false)), none, 0, false⟩])
 (.seq (.region [⟨(some 5), .move (.tmp 0), none, 0, false⟩,
 ⟨(some 6), .move (.tmp 1), none, 0, false⟩,
 ⟨(some 7), .call (.func 254) [(.tmp 5), (.tmp 6)], none, 0, false⟩,
 ⟨(some 8), .bin .geq (.tmp 7) (.const (.int .i64 0)), none, 0, false⟩,
 ⟨(some 4), .move (.tmp 8), none, 0, false⟩])
 .ret))⟩

def L232 : LFunc := ⟨8, [.tmp 3],
 (.seq (.region [⟨(some 2), .box 13 42 (.tmp 0), none, 0, false⟩,
 ⟨(some 3), .move (.const (.bool false)), none, 0, false⟩])
 (.seq (.region [⟨(some 4), .load1 (.tmp 1), none, 0, false⟩,
 ⟨(some 5), .fieldAddr 0 (.tmp 2), none, 0, false⟩,
 ⟨(some 6), .load1 (.tmp 5), none, 0, false⟩,
 ⟨(some 7), .call (.func 135) [(.tmp 4), (.tmp 6)], none, 0, false⟩,
 ⟨(some 3), .move (.tmp 7), none, 0, false⟩])
 .ret))⟩

def L233 : LFunc := ⟨26, [.tmp 4],
 (.seq (.region [⟨(some 4), .move (.const (.bool false)), none, 0, false⟩])
 (.seq (.seq (.region [⟨(some 6), .move (.tmp 0), none, 0, false⟩,
 ⟨(some 7), .len false (.tmp 6), none, 0, false⟩,
 ⟨(some 8), .move (.tmp 1), none, 0, false⟩,
 ⟨(some 9), .len false (.tmp 8), none, 0, false⟩,
 ⟨(some 10), .bin .neq (.tmp 7) (.tmp 9), none, 0, false⟩])
 (.cond (.tmp 10) (.seq (.region [⟨(some 4), .move (.const (.bool false)), none, 0, false⟩])
 .ret)
 .skip))
 (.seq (.seq (.region [⟨(some 11), .move (.tmp 0), none, 0, false⟩,
 ⟨(some 12), .len false (.tmp 11), none, 0, false⟩,
 ⟨(some 13), .move (.const (.int .i64 0)), none, 0, false⟩])
 (.block 0 (.loop (.seq (.region [⟨(some 14), .bin .lss (.tmp 13) (.tmp 12), none, 0, false⟩])
 (.seq (.cond (.tmp 14) .skip
 (.exit 0))
 (.seq (.block 1 (.seq (.region [⟨(some 15), .move (.tmp 13), none, 0, false⟩,
 ⟨(some 5), .move (.tmp 15), none, 0, false⟩])
 (.seq (.draw [⟨(some 16), .move (.tmp 0), none, 0, false⟩,
 ⟨(some 17), .move (.tmp 5), none, 0, false⟩,
 ⟨(some 18), .indexAddr 13 (.tmp 16) (.tmp 17), none, 0, false⟩,
 ⟨(some 19), .loadN 13 (.tmp 18), none, 0, false⟩,
 ⟨(some 20), .move (.tmp 1), none, 0, false⟩,
 ⟨(some 21), .move (.tmp 5), none, 0, false⟩,
 ⟨(some 22), .indexAddr 13 (.tmp 20) (.tmp 21), none, 0, false⟩,
 ⟨(some 23), .loadN 13 (.tmp 22), none, 0, false⟩,
 ⟨(some 24), .eq true (.agg [(0, .n), (1, .n), (2, .n), (3, .n), (4, .n), (5, .n), (6, .n), (7, .n), (8, .n), (9, .n), (10, .n), (11, .n), (12, .n)]) (.tmp 19) (.tmp 23), none, 0, false⟩])
 (.cond (.tmp 24) (.seq (.region [⟨(some 4), .move (.const (.bool false)), none, 0, false⟩])
 .ret)
 .skip))))
 (.region [⟨(some 25), .bin .add (.tmp 13) (.const (.int .i64 1)), none, 0, false⟩,
 ⟨(some 13), .move (.tmp 25), none, 0, false⟩])))))))
 (.seq (.region [⟨(some 4), .move (.const (.bool true)), none, 0, false⟩])
 .ret))))⟩

def L234 : LFunc := ⟨26, [.tmp 4],
 (.seq (.region [⟨(some 4), .move (.const (.bool false)), none, 0, false⟩])
 (.seq (.seq (.region [⟨(some 6), .move (.tmp 0), none, 0, false⟩,
 ⟨(some 7), .len false (.tmp 6), none, 0, false⟩,
 ⟨(some 8), .move (.tmp 1), none, 0, false⟩,
 ⟨(some 9), .len false (.tmp 8), none, 0, false⟩,
 ⟨(some 10), .bin .neq (.tmp 7) (.tmp 9), none, 0, false⟩])
 (.cond (.tmp 10) (.seq (.region [⟨(some 4), .move (.const (.bool false)), none, 0, false⟩])
 .ret)
 .skip))
 (.seq (.seq (.region [⟨(some 11), .move (.tmp 0), none, 0, false⟩,
 ⟨(some 12), .len false (.tmp 11), none, 0, false⟩,
 ⟨(some 13), .move (.const (.int .i64 0)), none, 0, false⟩])
 (.block 0 (.loop (.seq (.region [⟨(some 14), .bin .lss (.tmp 13) (.tmp 12), none, 0, false⟩])
 (.seq (.cond (.tmp 14) .skip
 (.exit 0))
 (.seq (.block 1 (.seq (.region [⟨(some 15), .move (.tmp 13), none, 0, false⟩,
 ⟨(some 5), .move (.tmp 15), none, 0, false⟩])
 (.seq (.draw [⟨(some 16), .move (.tmp 0), none, 0, false⟩,
 ⟨(some 17), .move (.tmp 5), none, 0, false⟩,
 ⟨(some 18), .indexAddr 1 (.tmp 16) (.tmp 17), none, 0, false⟩,
 ⟨(some 19), .load1 (.tmp 18), none, 0, false⟩,
 ⟨(some 20), .move (.tmp 1), none, 0, false⟩,
 ⟨(some 21), .move (.tmp 5), none, 0, false⟩,
 ⟨(some 22), .indexAddr 1 (.tmp 20) (.tmp 21), none, 0, false⟩,
 ⟨(some 23), .load1 (.tmp 22), none, 0, false⟩,
 ⟨(some 24), .bin .neq (.tmp 19) (.tmp 23), none, 0, false⟩])
 (.cond (.tmp 24) (.seq (.region [⟨(some 4), .move (.const (.bool false)), none, 0, false⟩])
 .ret)
 .skip))))
 (.region [⟨(some 25), .bin .add (.tmp 13) (.const (.int .i64 1)), none, 0, false⟩,
 ⟨(some 13), .move (.tmp 25), none, 0, false⟩])))))))
 (.seq (.region [⟨(some 4), .move (.const (.bool true)), none, 0, false⟩])
 .ret))))⟩

def L235 : LFunc := ⟨19, [.tmp 4],
 (.seq (.region [⟨(some 4), .move (.const (.int .i64 0)), none, 0, false⟩])
 (.seq (.seq (.region [⟨(some 6), .move (.tmp 0), none, 0, false⟩,
 ⟨(some 7), .len false (.tmp 6), none, 0, false⟩,
 ⟨(some 8), .move (.const (.int .i64 0)), none, 0, false⟩])
 (.block 0 (.loop (.seq (.region [⟨(some 9), .bin .lss (.tmp 8) (.tmp 7), none, 0, false⟩])
 (.seq (.cond (.tmp 9) .skip
 (.exit 0))
 (.seq (.block 1 (.seq (.region [⟨(some 10), .move (.tmp 8), none, 0, false⟩,
 ⟨(some 5), .move (.tmp 10), none, 0, false⟩])
 (.seq (.region [⟨(some 11), .move (.tmp 1), none, 0, false⟩,
 ⟨(some 12), .move (.tmp 0), none, 0, false⟩,
 ⟨(some 13), .move (.tmp 5), none, 0, false⟩,
 ⟨(some 14), .indexAddr 14 (.tmp 12) (.tmp 13), none, 0, false⟩,
 ⟨(some 15), .loadN 14 (.tmp 14), none, 0, false⟩,
 ⟨(some 16), .call (.tmp 11) [(.tmp 15)], none, 0, false⟩])
 (.cond (.tmp 16) (.seq (.region [⟨(some 17), .move (.tmp 5), none, 0, false⟩,
 ⟨(some 4), .move (.tmp 17), none, 0, false⟩])
 .ret)
 .skip))))
 (.region [⟨(some 18), .bin .add (.tmp 8) (.const (.int .i64 1)), none, 0, false⟩,
 ⟨(some 8), .move (.tmp 18), none, 0, false⟩])))))))
 (.seq (.region [⟨(some 4), .move (.const (.int .i64 (-1))), none, 0, false⟩])
 .ret)))⟩

def L236 : LFunc := ⟨9, [.tmp 3],
 (.seq (.region [⟨(some 2), .box 14 121 (.tmp 0), none, 0, false⟩,
 ⟨(some 3), .move (.const (.bool false)), none, 0, false⟩])
 (.seq (.region [⟨(some 4), .fieldAddr 0 (.tmp 2), none, 0, false⟩,
 ⟨(some 5), .fieldAddr 0 (.tmp 4), none, 0, false⟩,
 ⟨(some 6), .load1 (.tmp 5), none, 0, false⟩,
 ⟨(some 7), .load1 (.tmp 1), none, 0, false⟩,
 ⟨(some 8), .bin .eql (.tmp 6) (.tmp 7), none, 0, false⟩,
 ⟨(some 3), .move (.tmp 8), none, 0, false⟩])
 .ret))⟩

def L237 : LFunc := ⟨148, [],
 (.seq (.region [⟨(some 10), .move (.const (.bool true)), none, 0, false⟩])
 (.seq (.region [⟨(some 11), .move (.const (.bool true)), none, 0, false⟩])
 (.block 0 (.loop (.block 1 (.seq (.region [⟨(some 21), .move (.tmp 2), none, 0, false⟩,
 ⟨(some 22), .move (.tmp 1), none, 0, false⟩,
 ⟨(some 23), .bin .sub (.tmp 21) (.tmp 22), none, 0, false⟩,
 ⟨(some 12), .move (.tmp 23), none, 0, false⟩])
 (.seq (.seq (.region [⟨(some 24), .move (.tmp 12), none, 0, false⟩,
 ⟨(some 25), .bin .leq (.tmp 24) (.const (.int .i64 12)), none, 0, false⟩])
 (.cond (.tmp 25) (.seq (.region [⟨(some 26), .move (.tmp 0), none, 0, false⟩,
 ⟨(some 27), .move (.tmp 1), none, 0, false⟩,
 ⟨(some 28), .move (.tmp 2), none, 0, false⟩,
 ⟨(some 29), .move (.tmp 4), none, 0, false⟩,
 ⟨(some 30), .call (.func 255) [(.tmp 26), (.tmp 27), (.tmp 28), (.tmp 29)], none, 0, false⟩])
 .ret)
 .skip))
 (.seq (.seq (.region [⟨(some 31), .move (.tmp 3), none, 0, false⟩,
 ⟨(some 32), .bin .eql (.tmp 31) (.const (.int .i64 0)), none, 0, false⟩])
 (.cond (.tmp 32) (.seq (.region [⟨(some 33), .move (.tmp 0), none, 0, false⟩,
 ⟨(some 34), .move (.tmp 1), none, 0, false⟩,
 ⟨(some 35), .move (.tmp 2), none, 0, false⟩,
 ⟨(some 36), .move (.tmp 4), none, 0, false⟩,
 ⟨(some 37), .call (.func 256) [(.tmp 33), (.tmp 34), (.tmp 35), (.tmp 36)], none, 0, false⟩])
 .ret)
 .skip))
 (.seq (.seq (.region [⟨(some 38), .move (.tmp 10), none, 0, false⟩,
 ⟨(some 39), .un .not (.tmp 38), none, 0, false⟩])
 (.cond (.tmp 39) (.seq (.region [⟨(some 40), .move (.tmp 0), none, 0, false⟩,
 ⟨(some 41), .move (.tmp 1), none, 0, false⟩,
 ⟨(some 42), .move (.tmp 2), none, 0, false⟩,
 ⟨(some 43), .move (.tmp 4), none, 0, false⟩,
 ⟨(some 44), .call (.func 257) [(.tmp 40), (.tmp 41), (.tmp 42), (.tmp 43)], none, 0, false⟩])
 (.region [⟨(some 45), .move (.tmp 3), none, 0, false⟩,
 ⟨(some 46), .bin .sub (.tmp 45) (.const (.int .i64 1)), none, 0, false⟩,
 ⟨(some 3), .move (.tmp 46), none, 0, false⟩]))
 .skip))
 (.seq (.region [⟨(some 48), .move (.tmp 0), none, 0, false⟩,
 ⟨(some 49), .move (.tmp 1), none, 0, false⟩,
 ⟨(some 50), .move (.tmp 2), none, 0, false⟩,
 ⟨(some 51), .move (.tmp 4), none, 0, false⟩,
 ⟨(some 52), .call (.func 258) [(.tmp 48), (.tmp 49), (.tmp 50), (.tmp 51)], none, 0, false⟩,
 ⟨(some 47), .move (.tmp 52), none, 0, false⟩,
 ⟨(some 53), .extract (.tmp 47) 0, none, 0, false⟩,
 ⟨(some 54), .extract (.tmp 47) 1, none, 0, false⟩,
 ⟨(some 13), .move (.tmp 53), none, 0, false⟩,
 ⟨(some 14), .move (.tmp 54), none, 0, false⟩])
 (.seq (.seq (.region [⟨(some 55), .move (.tmp 14), none, 0, false⟩,
 ⟨(some 56), .bin .eql (.tmp 55) (.const (.int .i64 2)), none, 0, false⟩])
 (.cond (.tmp 56) (.seq (.region [⟨(some 57), .move (.tmp 0), none, 0, false⟩,
 ⟨(some 58), .move (.tmp 1), none, 0, false⟩,
 ⟨(some 59), .move (.tmp 2), none, 0, false⟩,
 ⟨(some 60), .move (.tmp 4), none, 0, false⟩,
 ⟨(some 61), .call (.func 259) [(.tmp 57), (.tmp 58), (.tmp 59), (.tmp 60)], none, 0, false⟩])
 (.seq (.region [⟨(some 62), .move (.tmp 2), none, 0, false⟩,
 ⟨(some 63), .bin .sub (.tmp 62) (.const (.int .i64 1)), none, 0, false⟩,
 ⟨(some 64), .move (.tmp 13), none, 0, false⟩,
 ⟨(some 65), .move (.tmp 1), none, 0, false⟩,
 ⟨(some 66), .bin .sub (.tmp 64) (.tmp 65), none, 0, false⟩,
 ⟨(some 67), .bin .sub (.tmp 63) (.tmp 66), none, 0, false⟩,
 ⟨(some 13), .move (.tmp 67), none, 0, false⟩])
 (.region [⟨(some 14), .move (.const (.int .i64 1)), none, 0, false⟩])))
 .skip))
 (.seq (.seq (.region [⟨(some 68), .move (.tmp 10), none, 0, false⟩,
 ⟨(some 69), .move (.tmp 68), none, 0, false⟩,
 ⟨(some 70), .move (.tmp 11), (some (69, true)), 0, false⟩,
 ⟨(some 71), .pick (.tmp 69) (.tmp 70) (.const (.bool false)), none, 0, false⟩,
 ⟨(some 72), .move (.tmp 71), none, 0, false⟩,
 ⟨(some 73), .move (.tmp 14), (some (72, true)), 0, false⟩,
 ⟨(some 74), .bin .eql (.tmp 73) (.const (.int .i64 1)), (some (72, true)), 0, false⟩,
 ⟨(some 75), .pick (.tmp 72) (.tmp 74) (.const (.bool false)), none, 0, false⟩])
 (.cond (.tmp 75) (.seq (.region [⟨(some 76), .move (.tmp 0), none, 0, false⟩,
 ⟨(some 77), .move (.tmp 1), none, 0, false⟩,
 ⟨(some 78), .move (.tmp 2), none, 0, false⟩,
 ⟨(some 79), .move (.tmp 4), none, 0, false⟩,
 ⟨(some 80), .call (.func 260) [(.tmp 76), (.tmp 77), (.tmp 78), (.tmp 79)], none, 0, false⟩])
 (.cond (.tmp 80) .ret
 .skip))
 .skip))
 (.seq (.seq (.draw [⟨(some 81), .move (.tmp 1), none, 0, false⟩,
 ⟨(some 82), .bin .gtr (.tmp 81) (.const (.int .i64 0)), none, 0, false⟩,
 ⟨(some 83), .move (.tmp 82), none, 0, false⟩,
 ⟨(some 84), .move (.tmp 4), (some (83, true)), 0, false⟩,
 ⟨(some 85), .move (.tmp 0), (some (83, true)), 0, false⟩,
 ⟨(some 86), .move (.tmp 1), (some (83, true)), 0, false⟩,
 ⟨(some 87), .bin .sub (.tmp 86) (.const (.int .i64 1)), (some (83, true)), 0, false⟩,
 ⟨(some 88), .indexAddr 14 (.tmp 85) (.tmp 87), (some (83, true)), 0, false⟩,
 ⟨(some 89), .loadN 14 (.tmp 88), (some (83, true)), 0, false⟩,
 ⟨(some 90), .move (.tmp 0), (some (83, true)), 0, false⟩,
 ⟨(some 91), .move (.tmp 13), (some (83, true)), 0, false⟩,
 ⟨(some 92), .indexAddr 14 (.tmp 90) (.tmp 91), (some (83, true)), 0, false⟩,
 ⟨(some 93), .loadN 14 (.tmp 92), (some (83, true)), 0, false⟩,
 ⟨(some 94), .call (.tmp 84) [(.tmp 89), (.tmp 93)], (some (83, true)), 0, true⟩,
 ⟨(some 95), .bin .lss (.tmp 94) (.const (.int .i64 0)), (some (83, true)), 1, false⟩,
 ⟨(some 96), .un .not (.tmp 95), (some (83, true)), 1, false⟩,
 ⟨(some 97), .pick (.tmp 83) (.tmp 96) (.const (.bool false)), none, 1, false⟩])
 (.cond (.tmp 97) (.seq (.region [⟨(some 98), .move (.tmp 0), none, 0, false⟩,
 ⟨(some 99), .move (.tmp 1), none, 0, false⟩,
 ⟨(some 100), .move (.tmp 2), none, 0, false⟩,
 ⟨(some 101), .move (.tmp 13), none, 0, false⟩,
 ⟨(some 102), .move (.tmp 4), none, 0, false⟩,
 ⟨(some 103), .call (.func 261) [(.tmp 98), (.tmp 99), (.tmp 100), (.tmp 101), (.tmp 102)], none, 0, false⟩,
 ⟨(some 15), .move (.tmp 103), none, 0, false⟩])
 (.seq (.region [⟨(some 104), .move (.tmp 15), none, 0, false⟩,
 ⟨(some 1), .move (.tmp 104), none, 0, false⟩])
 (.exit 1)))
 .skip))
 (.seq (.region [⟨(some 106), .move (.tmp 0), none, 0, false⟩,
 ⟨(some 107), .move (.tmp 1), none, 0, false⟩,
 ⟨(some 108), .move (.tmp 2), none, 0, false⟩,
 ⟨(some 109), .move (.tmp 13), none, 0, false⟩,
 ⟨(some 110), .move (.tmp 4), none, 0, false⟩,
 ⟨(some 111), .call (.func 262) [(.tmp 106), (.tmp 107), (.tmp 108), (.tmp 109), (.tmp 110)], none, 0, false⟩,
 ⟨(some 105), .move (.tmp 111), none, 0, false⟩,
 ⟨(some 112), .extract (.tmp 105) 0, none, 0, false⟩,
 ⟨(some 113), .extract (.tmp 105) 1, none, 0, false⟩,
 ⟨(some 16), .move (.tmp 112), none, 0, false⟩,
 ⟨(some 17), .move (.tmp 113), none, 0, false⟩])
 (.seq (.region [⟨(some 114), .move (.tmp 17), none, 0, false⟩,
 ⟨(some 11), .move (.tmp 114), none, 0, false⟩])
 (.seq (.region [⟨(some 115), .move (.tmp 16), none, 0, false⟩,
 ⟨(some 116), .move (.tmp 1), none, 0, false⟩,
 ⟨(some 117), .bin .sub (.tmp 115) (.tmp 116), none, 0, false⟩,
 ⟨(some 118), .move (.tmp 2), none, 0, false⟩,
 ⟨(some 119), .move (.tmp 16), none, 0, false⟩,
 ⟨(some 120), .bin .sub (.tmp 118) (.tmp 119), none, 0, false⟩,
 ⟨(some 18), .move (.tmp 117), none, 0, false⟩,
 ⟨(some 19), .move (.tmp 120), none, 0, false⟩])
 (.seq (.region [⟨(some 121), .move (.tmp 12), none, 0, false⟩,
 ⟨(some 122), .bin .quo (.tmp 121) (.const (.int .i64 8)), none, 0, false⟩,
 ⟨(some 20), .move (.tmp 122), none, 0, false⟩])
 (.seq (.region [⟨(some 123), .move (.tmp 18), none, 0, false⟩,
 ⟨(some 124), .move (.tmp 19), none, 0, false⟩,
 ⟨(some 125), .bin .lss (.tmp 123) (.tmp 124), none, 0, false⟩])
 (.cond (.tmp 125) (.seq (.region [⟨(some 126), .move (.tmp 18), none, 0, false⟩,
 ⟨(some 127), .move (.tmp 20), none, 0, false⟩,
 ⟨(some 128), .bin .geq (.tmp 126) (.tmp 127), none, 0, false⟩,
 ⟨(some 10), .move (.tmp 128), none, 0, false⟩])
 (.seq (.region [⟨(some 129), .move (.tmp 0), none, 0, false⟩,
 ⟨(some 130), .move (.tmp 1), none, 0, false⟩,
 ⟨(some 131), .move (.tmp 16), none, 0, false⟩,
 ⟨(some 132), .move (.tmp 3), none, 0, false⟩,
 ⟨(some 133), .move (.tmp 4), none, 0, false⟩,
 ⟨(some 134), .call (.func 237) [(.tmp 129), (.tmp 130), (.tmp 131), (.tmp 132), (.tmp 133)], none, 0, false⟩])
 (.region [⟨(some 135), .move (.tmp 16), none, 0, false⟩,
 ⟨(some 136), .bin .add (.tmp 135) (.const (.int .i64 1)), none, 0, false⟩,
 ⟨(some 1), .move (.tmp 136), none, 0, false⟩])))
 (.seq (.region [⟨(some 137), .move (.tmp 19), none, 0, false⟩,
 ⟨(some 138), .move (.tmp 20), none, 0, false⟩,
 ⟨(some 139), .bin .geq (.tmp 137) (.tmp 138), none, 0, false⟩,
 ⟨(some 10), .move (.tmp 139), none, 0, false⟩])
 (.seq (.region [⟨(some 140), .move (.tmp 0), none, 0, false⟩,
 ⟨(some 141), .move (.tmp 16), none, 0, false⟩,
 ⟨(some 142), .bin .add (.tmp 141) (.const (.int .i64 1)), none, 0, false⟩,
 ⟨(some 143), .move (.tmp 2), none, 0, false⟩,
 ⟨(some 144), .move (.tmp 3), none, 0, false⟩,
 ⟨(some 145), .move (.tmp 4), none, 0, false⟩,
 ⟨(some 146), .call (.func 237) [(.tmp 140), (.tmp 142), (.tmp 143), (.tmp 144), (.tmp 145)], none, 0, false⟩])
 (.region [⟨(some 147), .move (.tmp 16), none, 0, false⟩,
 ⟨(some 2), .move (.tmp 147), none, 0, false⟩]))))))))))))))))))))))⟩

def L238 : LFunc := ⟨6, [.tmp 2],
 (.seq (.region [⟨(some 2), .move (.const (.bool false)), none, 0, false⟩])
 (.seq (.region [⟨(some 3), .move (.tmp 0), none, 0, false⟩,
 ⟨(some 4), .move (.tmp 0), none, 0, false⟩,
 ⟨(some 5), .bin .neq (.tmp 3) (.tmp 4), none, 0, false⟩,
 ⟨(some 2), .move (.tmp 5), none, 0, false⟩])
 .ret))⟩

def L239 : LFunc := ⟨15, [.tmp 2],
 (.seq (.region [⟨(some 2), .move (.const (.slice none 0 0)), none, 0, false⟩])
 (.seq (.region [⟨(some 3), .move (.tmp 0), none, 0, false⟩,
 ⟨(some 4), .bin .shr (.tmp 3) (.const (.int .u64 24)), none, 0, false⟩,
 ⟨(some 5), .conv (.int .u8) (.tmp 4), none, 0, false⟩,
 ⟨(some 6), .move (.tmp 0), none, 0, false⟩,
 ⟨(some 7), .bin .shr (.tmp 6) (.const (.int .u64 16)), none, 0, false⟩,
 ⟨(some 8), .conv (.int .u8) (.tmp 7), none, 0, false⟩,
 ⟨(some 9), .move (.tmp 0), none, 0, false⟩,
 ⟨(some 10), .bin .shr (.tmp 9) (.const (.int .u64 8)), none, 0, false⟩,
 ⟨(some 11), .conv (.int .u8) (.tmp 10), none, 0, false⟩,
 ⟨(some 12), .move (.tmp 0), none, 0, false⟩,
 ⟨(some 13), .conv (.int .u8) (.tmp 12), none, 0, false⟩,
 ⟨(some 14), .buildSlice 4 1 5 [(.int .u8 0), (.int .u8 0), (.int .u8 0), (.int .u8 0)] [(0, 1, (.tmp 5)), (1, 1, (.tmp 8)), (2, 1, (.tmp 11)), (3, 1, (.tmp 13))], none, 0, false⟩,
 ⟨(some 2), .move (.tmp 14), none, 0, false⟩])
 .ret))⟩

def L240 : LFunc := ⟨17, [.tmp 2],
 (.seq (.region [⟨(some 2), .move (.const (.int .u32 0)), none, 0, false⟩])
 (.seq (.region [⟨(some 3), .move (.const (.int .u32 0)), none, 0, false⟩])
 (.seq (.seq (.region [⟨(some 6), .move (.tmp 0), none, 0, false⟩,
 ⟨(some 7), .len false (.tmp 6), none, 0, false⟩,
 ⟨(some 8), .move (.const (.int .i64 0)), none, 0, false⟩])
 (.block 0 (.loop (.seq (.region [⟨(some 9), .bin .lss (.tmp 8) (.tmp 7), none, 0, false⟩])
 (.seq (.cond (.tmp 9) .skip
 (.exit 0))
 (.seq (.block 1 (.seq (.region [⟨(some 10), .indexAddr 1 (.tmp 6) (.tmp 8), none, 0, false⟩,
 ⟨(some 11), .load1 (.tmp 10), none, 0, false⟩,
 ⟨(some 5), .move (.tmp 11), none, 0, false⟩])
 (.region [⟨(some 12), .move (.tmp 3), none, 0, false⟩,
 ⟨(some 13), .move (.tmp 5), none, 0, false⟩,
 ⟨(some 14), .call (.func 263) [(.tmp 12), (.tmp 13)], none, 0, false⟩,
 ⟨(some 3), .move (.tmp 14), none, 0, false⟩])))
 (.region [⟨(some 15), .bin .add (.tmp 8) (.const (.int .i64 1)), none, 0, false⟩,
 ⟨(some 8), .move (.tmp 15), none, 0, false⟩])))))))
 (.seq (.region [⟨(some 16), .move (.tmp 3), none, 0, false⟩,
 ⟨(some 2), .move (.tmp 16), none, 0, false⟩])
 .ret))))⟩

def L241 : LFunc := ⟨27, [.tmp 4],
 (.seq (.region [⟨(some 4), .move (.const (.slice none 0 0)), none, 0, false⟩])
 (.seq (.seq (.region [⟨(some 5), .move (.tmp 1), none, 0, false⟩,
 ⟨(some 6), .bin .lss (.tmp 5) (.const (.int .i64 0)), none, 0, false⟩])
 (.cond (.tmp 6) (.region [⟨(some 7), .mkIface 9 (.const (.string ⟨⟨[99, 97, 110, 110, 111, 116, 32, 98, 101, 32, 110, 101, 103, 97, 116, 105, 118, 101]⟩⟩)), none, 0, false⟩,
 ⟨none, .bad, none, 0, false⟩])
 .skip))
 (.seq (.seq (.region [⟨(some 8), .move (.tmp 1), none, 0, false⟩,
 ⟨(some 9), .move (.tmp 0), none, 0, false⟩,
 ⟨(some 10), .cap (.tmp 9), none, 0, false⟩,
 ⟨(some 11), .move (.tmp 0), none, 0, false⟩,
 ⟨(some 12), .len false (.tmp 11), none, 0, false⟩,
 ⟨(some 13), .bin .sub (.tmp 10) (.tmp 12), none, 0, false⟩,
 ⟨(some 14), .bin .sub (.tmp 8) (.tmp 13), none, 0, false⟩,
 ⟨(some 1), .move (.tmp 14), none, 0, false⟩])
 (.seq (.region [⟨(some 15), .move (.tmp 1), none, 0, false⟩,
 ⟨(some 16), .bin .gtr (.tmp 15) (.const (.int .i64 0)), none, 0, false⟩])
 (.cond (.tmp 16) (.region [⟨(some 17), .move (.tmp 0), none, 0, false⟩,
 ⟨(some 18), .move (.tmp 0), none, 0, false⟩,
 ⟨(some 19), .cap (.tmp 18), none, 0, false⟩,
 ⟨(some 20), .slice 1 (.tmp 17) none (some (.tmp 19)) none, none, 0, false⟩,
 ⟨(some 21), .move (.tmp 1), none, 0, false⟩,
 ⟨(some 22), .append 1 1 5 [(.int .u8 0)] true (.tmp 20) (.tmp 21), none, 0, false⟩,
 ⟨(some 23), .move (.tmp 0), none, 0, false⟩,
 ⟨(some 24), .len false (.tmp 23), none, 0, false⟩,
 ⟨(some 25), .slice 1 (.tmp 22) none (some (.tmp 24)) none, none, 0, false⟩,
 ⟨(some 0), .move (.tmp 25), none, 0, false⟩])
 .skip)))
 (.seq (.region [⟨(some 26), .move (.tmp 0), none, 0, false⟩,
 ⟨(some 4), .move (.tmp 26), none, 0, false⟩])
 .ret))))⟩

def L242 : LFunc := ⟨4, [.tmp 2],
 (.seq (.region [⟨(some 1), .box 1 36 (.tmp 0), none, 0, false⟩,
 ⟨(some 2), .move (.const .nilFunc), none, 0, false⟩])
 (.seq (.region [⟨(some 3), .mkFunc (.func 264) [] [(.tmp 1)], none, 0, false⟩,
 ⟨(some 2), .move (.tmp 3), none, 0, false⟩])
 .ret))⟩

def L243 : LFunc := ⟨19, [.tmp 4],
 (.seq (.region [⟨(some 4), .move (.const (.int .i64 0)), none, 0, false⟩])
 (.seq (.seq (.region [⟨(some 6), .move (.tmp 0), none, 0, false⟩,
 ⟨(some 7), .len false (.tmp 6), none, 0, false⟩,
 ⟨(some 8), .move (.const (.int .i64 0)), none, 0, false⟩])
 (.block 0 (.loop (.seq (.region [⟨(some 9), .bin .lss (.tmp 8) (.tmp 7), none, 0, false⟩])
 (.seq (.cond (.tmp 9) .skip
 (.exit 0))
 (.seq (.block 1 (.seq (.region [⟨(some 10), .move (.tmp 8), none, 0, false⟩,
 ⟨(some 5), .move (.tmp 10), none, 0, false⟩])
 (.seq (.region [⟨(some 11), .move (.tmp 1), none, 0, false⟩,
 ⟨(some 12), .move (.tmp 0), none, 0, false⟩,
 ⟨(some 13), .move (.tmp 5), none, 0, false⟩,
 ⟨(some 14), .indexAddr 1 (.tmp 12) (.tmp 13), none, 0, false⟩,
 ⟨(some 15), .load1 (.tmp 14), none, 0, false⟩,
 ⟨(some 16), .call (.tmp 11) [(.tmp 15)], none, 0, false⟩])
 (.cond (.tmp 16) (.seq (.region [⟨(some 17), .move (.tmp 5), none, 0, false⟩,
 ⟨(some 4), .move (.tmp 17), none, 0, false⟩])
 .ret)
 .skip))))
 (.region [⟨(some 18), .bin .add (.tmp 8) (.const (.int .i64 1)), none, 0, false⟩,
 ⟨(some 8), .move (.tmp 18), none, 0, false⟩])))))))
 (.seq (.region [⟨(some 4), .move (.const (.int .i64 (-1))), none, 0, false⟩])
 .ret)))⟩

def L244 : LFunc := ⟨19, [.tmp 4],
 (.seq (.region [⟨(some 4), .move (.const (.int .i64 0)), none, 0, false⟩])
 (.seq (.seq (.region [⟨(some 6), .move (.tmp 0), none, 0, false⟩,
 ⟨(some 7), .len false (.tmp 6), none, 0, false⟩,
 ⟨(some 8), .move (.const (.int .i64 0)), none, 0, false⟩])
 (.block 0 (.loop (.seq (.region [⟨(some 9), .bin .lss (.tmp 8) (.tmp 7), none, 0, false⟩])
 (.seq (.cond (.tmp 9) .skip
 (.exit 0))
 (.seq (.block 1 (.seq (.region [⟨(some 10), .move (.tmp 8), none, 0, false⟩,
 ⟨(some 5), .move (.tmp 10), none, 0, false⟩])
 (.seq (.region [⟨(some 11), .move (.tmp 1), none, 0, false⟩,
 ⟨(some 12), .move (.tmp 0), none, 0, false⟩,
 ⟨(some 13), .move (.tmp 5), none, 0, false⟩,
 ⟨(some 14), .indexAddr 1 (.tmp 12) (.tmp 13), none, 0, false⟩,
 ⟨(some 15), .load1 (.tmp 14), none, 0, false⟩,
 ⟨(some 16), .call (.tmp 11) [(.tmp 15)], none, 0, false⟩])
 (.cond (.tmp 16) (.seq (.region [⟨(some 17), .move (.tmp 5), none, 0, false⟩,
 ⟨(some 4), .move (.tmp 17), none, 0, false⟩])
 .ret)
 .skip))))
 (.region [⟨(some 18), .bin .add (.tmp 8) (.const (.int .i64 1)), none, 0, false⟩,
 ⟨(some 8), .move (.tmp 18), none, 0, false⟩])))))))
 (.seq (.region [⟨(some 4), .move (.const (.int .i64 (-1))), none, 0, false⟩])
 .ret)))⟩

def L245 : LFunc := ⟨76, [],
 (.seq (.region [⟨(some 10), .move (.tmp 1), none, 0, false⟩,
 ⟨(some 8), .move (.tmp 10), none, 0, false⟩])
 (.block 0 (.loop (.block 1 (.seq (.region [⟨(some 11), .move (.tmp 8), none, 0, false⟩,
 ⟨(some 12), .bin .mul (.const (.int .i64 2)) (.tmp 11), none, 0, false⟩,
 ⟨(some 13), .bin .add (.tmp 12) (.const (.int .i64 1)), none, 0, false⟩,
 ⟨(some 9), .move (.tmp 13), none, 0, false⟩])
 (.seq (.seq (.region [⟨(some 14), .move (.tmp 9), none, 0, false⟩,
 ⟨(some 15), .move (.tmp 2), none, 0, false⟩,
 ⟨(some 16), .bin .geq (.tmp 14) (.tmp 15), none, 0, false⟩])
 (.cond (.tmp 16) (.exit 0)
 .skip))
 (.seq (.seq (.draw [⟨(some 17), .move (.tmp 9), none, 0, false⟩,
 ⟨(some 18), .bin .add (.tmp 17) (.const (.int .i64 1)), none, 0, false⟩,
 ⟨(some 19), .move (.tmp 2), none, 0, false⟩,
 ⟨(some 20), .bin .lss (.tmp 18) (.tmp 19), none, 0, false⟩,
 ⟨(some 21), .move (.tmp 20), none, 0, false⟩,
 ⟨(some 22), .move (.tmp 0), (some (21, true)), 0, false⟩,
 ⟨(some 23), .move (.tmp 3), (some (21, true)), 0, false⟩,
 ⟨(some 24), .move (.tmp 9), (some (21, true)), 0, false⟩,
 ⟨(some 25), .bin .add (.tmp 23) (.tmp 24), (some (21, true)), 0, false⟩,
 ⟨(some 26), .indexAddr 1 (.tmp 22) (.tmp 25), (some (21, true)), 0, false⟩,
 ⟨(some 27), .load1 (.tmp 26), (some (21, true)), 0, false⟩,
 ⟨(some 28), .move (.tmp 0), (some (21, true)), 0, false⟩,
 ⟨(some 29), .move (.tmp 3), (some (21, true)), 0, false⟩,
 ⟨(some 30), .move (.tmp 9), (some (21, true)), 0, false⟩,
 ⟨(some 31), .bin .add (.tmp 29) (.tmp 30), (some (21, true)), 0, false⟩,
 ⟨(some 32), .bin .add (.tmp 31) (.const (.int .i64 1)), (some (21, true)), 0, false⟩,
 ⟨(some 33), .indexAddr 1 (.tmp 28) (.tmp 32), (some (21, true)), 0, false⟩,
 ⟨(some 34), .load1 (.tmp 33), (some (21, true)), 0, false⟩,
 ⟨(some 35), .call (.func 216) [(.tmp 27), (.tmp 34)], (some (21, true)), 0, true⟩,
 ⟨(some 36), .pick (.tmp 21) (.tmp 35) (.const (.bool false)), none, 1, false⟩])
 (.cond (.tmp 36) (.region [⟨(some 37), .move (.tmp 9), none, 0, false⟩,
 ⟨(some 38), .bin .add (.tmp 37) (.const (.int .i64 1)), none, 0, false⟩,
 ⟨(some 9), .move (.tmp 38), none, 0, false⟩])
 .skip))
 (.seq (.seq (.draw [⟨(some 39), .move (.tmp 0), none, 0, false⟩,
 ⟨(some 40), .move (.tmp 3), none, 0, false⟩,
 ⟨(some 41), .move (.tmp 8), none, 0, false⟩,
 ⟨(some 42), .bin .add (.tmp 40) (.tmp 41), none, 0, false⟩,
 ⟨(some 43), .indexAddr 1 (.tmp 39) (.tmp 42), none, 0, false⟩,
 ⟨(some 44), .load1 (.tmp 43), none, 0, false⟩,
 ⟨(some 45), .move (.tmp 0), none, 0, false⟩,
 ⟨(some 46), .move (.tmp 3), none, 0, false⟩,
 ⟨(some 47), .move (.tmp 9), none, 0, false⟩,
 ⟨(some 48), .bin .add (.tmp 46) (.tmp 47), none, 0, false⟩,
 ⟨(some 49), .indexAddr 1 (.tmp 45) (.tmp 48), none, 0, false⟩,
 ⟨(some 50), .load1 (.tmp 49), none, 0, false⟩,
 ⟨(some 51), .call (.func 216) [(.tmp 44), (.tmp 50)], none, 0, true⟩,
 ⟨(some 52), .un .not (.tmp 51), none, 1, false⟩])
 (.cond (.tmp 52) .ret
 .skip))
 (.seq (.draw [⟨(some 53), .move (.tmp 0), none, 0, false⟩,
 ⟨(some 54), .move (.tmp 3), none, 0, false⟩,
 ⟨(some 55), .move (.tmp 8), none, 0, false⟩,
 ⟨(some 56), .bin .add (.tmp 54) (.tmp 55), none, 0, false⟩,
 ⟨(some 61), .move (.tmp 0), none, 0, false⟩,
 ⟨(some 62), .move (.tmp 3), none, 0, false⟩,
 ⟨(some 63), .move (.tmp 9), none, 0, false⟩,
 ⟨(some 64), .bin .add (.tmp 62) (.tmp 63), none, 0, false⟩,
 ⟨(some 65), .indexAddr 1 (.tmp 61) (.tmp 64), none, 0, false⟩,
 ⟨(some 66), .load1 (.tmp 65), none, 0, false⟩,
 ⟨(some 67), .move (.tmp 0), none, 0, false⟩,
 ⟨(some 68), .move (.tmp 3), none, 0, false⟩,
 ⟨(some 69), .move (.tmp 8), none, 0, false⟩,
 ⟨(some 70), .bin .add (.tmp 68) (.tmp 69), none, 0, false⟩,
 ⟨(some 71), .indexAddr 1 (.tmp 67) (.tmp 70), none, 0, false⟩,
 ⟨(some 72), .load1 (.tmp 71), none, 0, false⟩,
 ⟨(some 73), .indexAddr 1 (.tmp 53) (.tmp 56), none, 0, false⟩,
 ⟨none, .store 1 (.tmp 73) (.tmp 66), none, 0, true⟩,
 ⟨(some 57), .move (.tmp 0), none, 0, false⟩,
 ⟨(some 58), .move (.tmp 3), none, 0, false⟩,
 ⟨(some 59), .move (.tmp 9), none, 0, false⟩,
 ⟨(some 60), .bin .add (.tmp 58) (.tmp 59), none, 0, false⟩,
 ⟨(some 74), .indexAddr 1 (.tmp 57) (.tmp 60), none, 1, false⟩,
 ⟨none, .store 1 (.tmp 74) (.tmp 72), none, 1, true⟩])
 (.region [⟨(some 75), .move (.tmp 9), none, 0, false⟩,
 ⟨(some 8), .move (.tmp 75), none, 0, false⟩]))))))))))⟩

def L246 : LFunc := ⟨7, [.tmp 2],
 (.seq (.region [⟨(some 2), .move (.const (.int .u64 0)), none, 0, false⟩])
 (.seq (.region [⟨(some 3), .move (.tmp 0), none, 0, false⟩,
 ⟨(some 4), .conv (.int .u64) (.tmp 3), none, 0, false⟩,
 ⟨(some 5), .call (.func 155) [(.tmp 4)], none, 0, false⟩,
 ⟨(some 6), .bin .shl (.const (.int .u64 1)) (.tmp 5), none, 0, false⟩,
 ⟨(some 2), .move (.tmp 6), none, 0, false⟩])
 .ret))⟩

def L247 : LFunc := ⟨33, [.tmp 2],
 (.seq (.region [⟨(some 2), .move (.const (.int .u64 0)), none, 0, false⟩])
 (.seq (.draw [⟨(some 3), .move (.tmp 0), none, 0, false⟩,
 ⟨(some 4), .nilCheck (.tmp 3), none, 0, false⟩,
 ⟨(some 5), .load1 (.tmp 4), none, 0, false⟩,
 ⟨(some 6), .move (.tmp 0), none, 0, false⟩,
 ⟨(some 7), .nilCheck (.tmp 6), none, 0, false⟩,
 ⟨(some 8), .load1 (.tmp 7), none, 0, false⟩,
 ⟨(some 9), .bin .shl (.tmp 8) (.const (.int .u64 13)), none, 0, false⟩,
 ⟨(some 10), .bin .xor (.tmp 5) (.tmp 9), none, 0, false⟩,
 ⟨(some 11), .nilCheck (.tmp 3), none, 0, false⟩,
 ⟨none, .store 1 (.tmp 11) (.tmp 10), none, 0, true⟩])
 (.seq (.draw [⟨(some 12), .move (.tmp 0), none, 0, false⟩,
 ⟨(some 13), .nilCheck (.tmp 12), none, 0, false⟩,
 ⟨(some 14), .load1 (.tmp 13), none, 0, false⟩,
 ⟨(some 15), .move (.tmp 0), none, 0, false⟩,
 ⟨(some 16), .nilCheck (.tmp 15), none, 0, false⟩,
 ⟨(some 17), .load1 (.tmp 16), none, 0, false⟩,
 ⟨(some 18), .bin .shr (.tmp 17) (.const (.int .u64 7)), none, 0, false⟩,
 ⟨(some 19), .bin .xor (.tmp 14) (.tmp 18), none, 0, false⟩,
 ⟨(some 20), .nilCheck (.tmp 12), none, 0, false⟩,
 ⟨none, .store 1 (.tmp 20) (.tmp 19), none, 0, true⟩])
 (.seq (.draw [⟨(some 21), .move (.tmp 0), none, 0, false⟩,
 ⟨(some 22), .nilCheck (.tmp 21), none, 0, false⟩,
 ⟨(some 23), .load1 (.tmp 22), none, 0, false⟩,
 ⟨(some 24), .move (.tmp 0), none, 0, false⟩,
 ⟨(some 25), .nilCheck (.tmp 24), none, 0, false⟩,
 ⟨(some 26), .load1 (.tmp 25), none, 0, false⟩,
 ⟨(some 27), .bin .shl (.tmp 26) (.const (.int .u64 17)), none, 0, false⟩,
 ⟨(some 28), .bin .xor (.tmp 23) (.tmp 27), none, 0, false⟩,
 ⟨(some 29), .nilCheck (.tmp 21), none, 0, false⟩,
 ⟨none, .store 1 (.tmp 29) (.tmp 28), none, 0, true⟩])
 (.seq (.region [⟨(some 30), .move (.tmp 0), none, 0, false⟩,
 ⟨(some 31), .nilCheck (.tmp 30), none, 0, false⟩,
 ⟨(some 32), .load1 (.tmp 31), none, 0, false⟩,
 ⟨(some 2), .move (.tmp 32), none, 0, false⟩])
 .ret)))))⟩

def L248 : LFunc := ⟨15, [.tmp 6],
 (.seq (.region [⟨(some 6), .move (.const (.int .i64 0)), none, 0, false⟩])
 (.seq (.region [⟨(some 7), .move (.tmp 0), none, 0, false⟩,
 ⟨(some 8), .move (.tmp 1), none, 0, false⟩,
 ⟨(some 9), .bin .sub (.tmp 8) (.const (.int .i64 1)), none, 0, false⟩,
 ⟨(some 10), .move (.tmp 1), none, 0, false⟩,
 ⟨(some 11), .move (.tmp 1), none, 0, false⟩,
 ⟨(some 12), .bin .add (.tmp 11) (.const (.int .i64 1)), none, 0, false⟩,
 ⟨(some 13), .move (.tmp 2), none, 0, false⟩,
 ⟨(some 14), .call (.func 249) [(.tmp 7), (.tmp 9), (.tmp 10), (.tmp 12), (.tmp 13)], none, 0, false⟩,
 ⟨(some 6), .move (.tmp 14), none, 0, false⟩])
 .ret))⟩

def L249 : LFunc := ⟨36, [.tmp 10],
 (.seq (.region [⟨(some 10), .move (.const (.int .i64 0)), none, 0, false⟩])
 (.seq (.region [⟨(some 12), .move (.tmp 0), none, 0, false⟩,
 ⟨(some 13), .move (.tmp 1), none, 0, false⟩,
 ⟨(some 14), .move (.tmp 2), none, 0, false⟩,
 ⟨(some 15), .move (.tmp 4), none, 0, false⟩,
 ⟨(some 16), .call (.func 265) [(.tmp 12), (.tmp 13), (.tmp 14), (.tmp 15)], none, 0, false⟩,
 ⟨(some 11), .move (.tmp 16), none, 0, false⟩,
 ⟨(some 17), .extract (.tmp 11) 0, none, 0, false⟩,
 ⟨(some 18), .extract (.tmp 11) 1, none, 0, false⟩,
 ⟨(some 1), .move (.tmp 17), none, 0, false⟩,
 ⟨(some 2), .move (.tmp 18), none, 0, false⟩])
 (.seq (.region [⟨(some 20), .move (.tmp 0), none, 0, false⟩,
 ⟨(some 21), .move (.tmp 2), none, 0, false⟩,
 ⟨(some 22), .move (.tmp 3), none, 0, false⟩,
 ⟨(some 23), .move (.tmp 4), none, 0, false⟩,
 ⟨(some 24), .call (.func 265) [(.tmp 20), (.tmp 21), (.tmp 22), (.tmp 23)], none, 0, false⟩,
 ⟨(some 19), .move (.tmp 24), none, 0, false⟩,
 ⟨(some 25), .extract (.tmp 19) 0, none, 0, false⟩,
 ⟨(some 26), .extract (.tmp 19) 1, none, 0, false⟩,
 ⟨(some 2), .move (.tmp 25), none, 0, false⟩,
 ⟨(some 3), .move (.tmp 26), none, 0, false⟩])
 (.seq (.region [⟨(some 28), .move (.tmp 0), none, 0, false⟩,
 ⟨(some 29), .move (.tmp 1), none, 0, false⟩,
 ⟨(some 30), .move (.tmp 2), none, 0, false⟩,
 ⟨(some 31), .move (.tmp 4), none, 0, false⟩,
 ⟨(some 32), .call (.func 265) [(.tmp 28), (.tmp 29), (.tmp 30), (.tmp 31)], none, 0, false⟩,
 ⟨(some 27), .move (.tmp 32), none, 0, false⟩,
 ⟨(some 33), .extract (.tmp 27) 0, none, 0, false⟩,
 ⟨(some 34), .extract (.tmp 27) 1, none, 0, false⟩,
 ⟨(some 1), .move (.tmp 33), none, 0, false⟩,
 ⟨(some 2), .move (.tmp 34), none, 0, false⟩])
 (.seq (.region [⟨(some 35), .move (.tmp 2), none, 0, false⟩,
 ⟨(some 10), .move (.tmp 35), none, 0, false⟩])
 .ret)))))⟩

def L250 : LFunc := ⟨9, [.tmp 2],
 (.seq (.region [⟨(some 2), .move (.const (.bool false)), none, 0, false⟩])
 (.seq (.region [⟨(some 3), .move (.tmp 0), none, 0, false⟩,
 ⟨(some 4), .bin .geq (.tmp 3) (.const (.int .u64 1)), none, 0, false⟩,
 ⟨(some 5), .move (.tmp 4), none, 0, false⟩,
 ⟨(some 6), .move (.tmp 0), (some (5, true)), 0, false⟩,
 ⟨(some 7), .bin .leq (.tmp 6) (.const (.int .u64 281474976710656)), (some (5, true)), 0, false⟩,
 ⟨(some 8), .pick (.tmp 5) (.tmp 7) (.const (.bool false)), none, 0, false⟩,
 ⟨(some 2), .move (.tmp 8), none, 0, false⟩])
 .ret))⟩

def L251 : LFunc := ⟨26, [.tmp 4],
 (.seq (.region [⟨(some 4), .move (.const (.bool false)), none, 0, false⟩])
 (.seq (.seq (.region [⟨(some 6), .move (.tmp 0), none, 0, false⟩,
 ⟨(some 7), .len false (.tmp 6), none, 0, false⟩,
 ⟨(some 8), .move (.tmp 1), none, 0, false⟩,
 ⟨(some 9), .len false (.tmp 8), none, 0, false⟩,
 ⟨(some 10), .bin .neq (.tmp 7) (.tmp 9), none, 0, false⟩])
 (.cond (.tmp 10) (.seq (.region [⟨(some 4), .move (.const (.bool false)), none, 0, false⟩])
 .ret)
 .skip))
 (.seq (.seq (.region [⟨(some 11), .move (.tmp 0), none, 0, false⟩,
 ⟨(some 12), .len false (.tmp 11), none, 0, false⟩,
 ⟨(some 13), .move (.const (.int .i64 0)), none, 0, false⟩])
 (.block 0 (.loop (.seq (.region [⟨(some 14), .bin .lss (.tmp 13) (.tmp 12), none, 0, false⟩])
 (.seq (.cond (.tmp 14) .skip
 (.exit 0))
 (.seq (.block 1 (.seq (.region [⟨(some 15), .move (.tmp 13), none, 0, false⟩,
 ⟨(some 5), .move (.tmp 15), none, 0, false⟩])
 (.seq (.draw [⟨(some 16), .move (.tmp 0), none, 0, false⟩,
 ⟨(some 17), .move (.tmp 5), none, 0, false⟩,
 ⟨(some 18), .indexAddr 1 (.tmp 16) (.tmp 17), none, 0, false⟩,
 ⟨(some 19), .load1 (.tmp 18), none, 0, false⟩,
 ⟨(some 20), .move (.tmp 1), none, 0, false⟩,
 ⟨(some 21), .move (.tmp 5), none, 0, false⟩,
 ⟨(some 22), .indexAddr 1 (.tmp 20) (.tmp 21), none, 0, false⟩,
 ⟨(some 23), .load1 (.tmp 22), none, 0, false⟩,
 ⟨(some 24), .bin .neq (.tmp 19) (.tmp 23), none, 0, false⟩])
 (.cond (.tmp 24) (.seq (.region [⟨(some 4), .move (.const (.bool false)), none, 0, false⟩])
 .ret)
 .skip))))
 (.region [⟨(some 25), .bin .add (.tmp 13) (.const (.int .i64 1)), none, 0, false⟩,
 ⟨(some 13), .move (.tmp 25), none, 0, false⟩])))))))
 (.seq (.region [⟨(some 4), .move (.const (.bool true)), none, 0, false⟩])
 .ret))))⟩

def L252 : LFunc := ⟨19, [.tmp 4],
 (.seq (.region [⟨(some 4), .move (.const (.int .i64 0)), none, 0, false⟩])
 (.seq (.seq (.region [⟨(some 6), .move (.tmp 0), none, 0, false⟩,
 ⟨(some 7), .len false (.tmp 6), none, 0, false⟩,
 ⟨(some 8), .move (.const (.int .i64 0)), none, 0, false⟩])
 (.block 0 (.loop (.seq (.region [⟨(some 9), .bin .lss (.tmp 8) (.tmp 7), none, 0, false⟩])
 (.seq (.cond (.tmp 9) .skip
 (.exit 0))
 (.seq (.block 1 (.seq (.region [⟨(some 10), .move (.tmp 8), none, 0, false⟩,
 ⟨(some 5), .move (.tmp 10), none, 0, false⟩])
 (.seq (.region [⟨(some 11), .move (.tmp 1), none, 0, false⟩,
 ⟨(some 12), .move (.tmp 0), none, 0, false⟩,
 ⟨(some 13), .move (.tmp 5), none, 0, false⟩,
 ⟨(some 14), .indexAddr 1 (.tmp 12) (.tmp 13), none, 0, false⟩,
 ⟨(some 15), .load1 (.tmp 14), none, 0, false⟩,
 ⟨(some 16), .call (.tmp 11) [(.tmp 15)], none, 0, false⟩])
 (.cond (.tmp 16) (.seq (.region [⟨(some 17), .move (.tmp 5), none, 0, false⟩,
 ⟨(some 4), .move (.tmp 17), none, 0, false⟩])
 .ret)
 .skip))))
 (.region [⟨(some 18), .bin .add (.tmp 8) (.const (.int .i64 1)), none, 0, false⟩,
 ⟨(some 8), .move (.tmp 18), none, 0, false⟩])))))))
 (.seq (.region [⟨(some 4), .move (.const (.int .i64 (-1))), none, 0, false⟩])
 .ret)))⟩

def L253 : LFunc := ⟨5, [.tmp 2],
 (.seq (.region [⟨(some 2), .move (.const (.int .i64 0)), none, 0, false⟩])
 (.seq (.region [⟨(some 3), .move (.tmp 0), none, 0, false⟩,
 ⟨(some 4), .call (.func 220) [(.tmp 3)], none, 0, false⟩,
 ⟨(some 2), .move (.tmp 4), none, 0, false⟩])
 .ret))⟩

def L254 : LFunc := ⟨19, [.tmp 4],
 (.seq (.region [⟨(some 4), .move (.const (.int .i64 0)), none, 0, false⟩])
 (.seq (.seq (.region [⟨(some 6), .move (.tmp 0), none, 0, false⟩,
 ⟨(some 7), .len false (.tmp 6), none, 0, false⟩,
 ⟨(some 8), .move (.const (.int .i64 0)), none, 0, false⟩])
 (.block 0 (.loop (.seq (.region [⟨(some 9), .bin .lss (.tmp 8) (.tmp 7), none, 0, false⟩])
 (.seq (.cond (.tmp 9) .skip
 (.exit 0))
 (.seq (.block 1 (.seq (.region [⟨(some 10), .move (.tmp 8), none, 0, false⟩,
 ⟨(some 5), .move (.tmp 10), none, 0, false⟩])
 (.seq (.region [⟨(some 11), .move (.tmp 1), none, 0, false⟩,
 ⟨(some 12), .move (.tmp 0), none, 0, false⟩,
 ⟨(some 13), .move (.tmp 5), none, 0, false⟩,
 ⟨(some 14), .indexAddr 13 (.tmp 12) (.tmp 13), none, 0, false⟩,
 ⟨(some 15), .loadN 13 (.tmp 14), none, 0, false⟩,
 ⟨(some 16), .call (.tmp 11) [(.tmp 15)], none, 0, false⟩])
 (.cond (.tmp 16) (.seq (.region [⟨(some 17), .move (.tmp 5), none, 0, false⟩,
 ⟨(some 4), .move (.tmp 17), none, 0, false⟩])
 .ret)
 .skip))))
 (.region [⟨(some 18), .bin .add (.tmp 8) (.const (.int .i64 1)), none, 0, false⟩,
 ⟨(some 8), .move (.tmp 18), none, 0, false⟩])))))))
 (.seq (.region [⟨(some 4), .move (.const (.int .i64 (-1))), none, 0, false⟩])
 .ret)))⟩

def L255 : LFunc := ⟨53, [],
 (.seq (.region [⟨(some 10), .move (.tmp 1), none, 0, false⟩,
 ⟨(some 11), .bin .add (.tmp 10) (.const (.int .i64 1)), none, 0, false⟩,
 ⟨(some 8), .move (.tmp 11), none, 0, false⟩])
 (.block 0 (.loop (.seq (.seq (.region [⟨(some 12), .move (.tmp 8), none, 0, false⟩,
 ⟨(some 13), .move (.tmp 2), none, 0, false⟩,
 ⟨(some 14), .bin .lss (.tmp 12) (.tmp 13), none, 0, false⟩])
 (.cond (.tmp 14) .skip
 (.exit 0)))
 (.seq (.block 1 (.seq (.region [⟨(some 17), .move (.tmp 8), none, 0, false⟩,
 ⟨(some 9), .move (.tmp 17), none, 0, false⟩])
 (.block 2 (.loop (.seq (.seq (.draw [⟨(some 18), .move (.tmp 9), none, 0, false⟩,
 ⟨(some 19), .move (.tmp 1), none, 0, false⟩,
 ⟨(some 20), .bin .gtr (.tmp 18) (.tmp 19), none, 0, false⟩,
 ⟨(some 21), .move (.tmp 20), none, 0, false⟩,
 ⟨(some 22), .move (.tmp 3), (some (21, true)), 0, false⟩,
 ⟨(some 23), .move (.tmp 0), (some (21, true)), 0, false⟩,
 ⟨(some 24), .move (.tmp 9), (some (21, true)), 0, false⟩,
 ⟨(some 25), .indexAddr 14 (.tmp 23) (.tmp 24), (some (21, true)), 0, false⟩,
 ⟨(some 26), .loadN 14 (.tmp 25), (some (21, true)), 0, false⟩,
 ⟨(some 27), .move (.tmp 0), (some (21, true)), 0, false⟩,
 ⟨(some 28), .move (.tmp 9), (some (21, true)), 0, false⟩,
 ⟨(some 29), .bin .sub (.tmp 28) (.const (.int .i64 1)), (some (21, true)), 0, false⟩,
 ⟨(some 30), .indexAddr 14 (.tmp 27) (.tmp 29), (some (21, true)), 0, false⟩,
 ⟨(some 31), .loadN 14 (.tmp 30), (some (21, true)), 0, false⟩,
 ⟨(some 32), .call (.tmp 22) [(.tmp 26), (.tmp 31)], (some (21, true)), 0, true⟩,
 ⟨(some 33), .bin .lss (.tmp 32) (.const (.int .i64 0)), (some (21, true)), 1, false⟩,
 ⟨(some 34), .pick (.tmp 21) (.tmp 33) (.const (.bool false)), none, 1, false⟩])
 (.cond (.tmp 34) .skip
 (.exit 2)))
 (.seq (.block 3 (.draw [⟨(some 37), .move (.tmp 0), none, 0, false⟩,
 ⟨(some 38), .move (.tmp 9), none, 0, false⟩,
 ⟨(some 42), .move (.tmp 0), none, 0, false⟩,
 ⟨(some 43), .move (.tmp 9), none, 0, false⟩,
 ⟨(some 44), .bin .sub (.tmp 43) (.const (.int .i64 1)), none, 0, false⟩,
 ⟨(some 45), .indexAddr 14 (.tmp 42) (.tmp 44), none, 0, false⟩,
 ⟨(some 46), .loadN 14 (.tmp 45), none, 0, false⟩,
 ⟨(some 47), .move (.tmp 0), none, 0, false⟩,
 ⟨(some 48), .move (.tmp 9), none, 0, false⟩,
 ⟨(some 49), .indexAddr 14 (.tmp 47) (.tmp 48), none, 0, false⟩,
 ⟨(some 50), .loadN 14 (.tmp 49), none, 0, false⟩,
 ⟨(some 51), .indexAddr 14 (.tmp 37) (.tmp 38), none, 0, false⟩,
 ⟨none, .store 14 (.tmp 51) (.tmp 46), none, 0, true⟩,
 ⟨(some 39), .move (.tmp 0), none, 0, false⟩,
 ⟨(some 40), .move (.tmp 9), none, 0, false⟩,
 ⟨(some 41), .bin .sub (.tmp 40) (.const (.int .i64 1)), none, 0, false⟩,
 ⟨(some 52), .indexAddr 14 (.tmp 39) (.tmp 41), none, 1, false⟩,
 ⟨none, .store 14 (.tmp 52) (.tmp 50), none, 1, true⟩]))
 (.region [⟨(some 35), .move (.tmp 9), none, 0, false⟩,
 ⟨(some 36), .bin .sub (.tmp 35) (.const (.int .i64 1)), none, 0, false⟩,
 ⟨(some 9), .move (.tmp 36), none, 0, false⟩])))))))
 (.region [⟨(some 15), .move (.tmp 8), none, 0, false⟩,
 ⟨(some 16), .bin .add (.tmp 15) (.const (.int .i64 1)), none, 0, false⟩,
 ⟨(some 8), .move (.tmp 16), none, 0, false⟩]))))))⟩

def L256 : LFunc := ⟨60, [],
 (.seq (.region [⟨(some 13), .move (.tmp 1), none, 0, false⟩,
 ⟨(some 8), .move (.tmp 13), none, 0, false⟩])
 (.seq (.region [⟨(some 9), .move (.const (.int .i64 0)), none, 0, false⟩])
 (.seq (.region [⟨(some 14), .move (.tmp 2), none, 0, false⟩,
 ⟨(some 15), .move (.tmp 1), none, 0, false⟩,
 ⟨(some 16), .bin .sub (.tmp 14) (.tmp 15), none, 0, false⟩,
 ⟨(some 10), .move (.tmp 16), none, 0, false⟩])
 (.seq (.seq (.region [⟨(some 17), .move (.tmp 10), none, 0, false⟩,
 ⟨(some 18), .bin .sub (.tmp 17) (.const (.int .i64 1)), none, 0, false⟩,
 ⟨(some 19), .bin .quo (.tmp 18) (.const (.int .i64 2)), none, 0, false⟩,
 ⟨(some 11), .move (.tmp 19), none, 0, false⟩])
 (.block 0 (.loop (.seq (.seq (.region [⟨(some 20), .move (.tmp 11), none, 0, false⟩,
 ⟨(some 21), .bin .geq (.tmp 20) (.const (.int .i64 0)), none, 0, false⟩])
 (.cond (.tmp 21) .skip
 (.exit 0)))
 (.seq (.block 1 (.region [⟨(some 24), .move (.tmp 0), none, 0, false⟩,
 ⟨(some 25), .move (.tmp 11), none, 0, false⟩,
 ⟨(some 26), .move (.tmp 10), none, 0, false⟩,
 ⟨(some 27), .move (.tmp 8), none, 0, false⟩,
 ⟨(some 28), .move (.tmp 3), none, 0, false⟩,
 ⟨(some 29), .call (.func 266) [(.tmp 24), (.tmp 25), (.tmp 26), (.tmp 27), (.tmp 28)], none, 0, false⟩]))
 (.region [⟨(some 22), .move (.tmp 11), none, 0, false⟩,
 ⟨(some 23), .bin .sub (.tmp 22) (.const (.int .i64 1)), none, 0, false⟩,
 ⟨(some 11), .move (.tmp 23), none, 0, false⟩]))))))
 (.seq (.region [⟨(some 30), .move (.tmp 10), none, 0, false⟩,
 ⟨(some 31), .bin .sub (.tmp 30) (.const (.int .i64 1)), none, 0, false⟩,
 ⟨(some 12), .move (.tmp 31), none, 0, false⟩])
 (.block 2 (.loop (.seq (.seq (.region [⟨(some 32), .move (.tmp 12), none, 0, false⟩,
 ⟨(some 33), .bin .geq (.tmp 32) (.const (.int .i64 0)), none, 0, false⟩])
 (.cond (.tmp 33) .skip
 (.exit 2)))
 (.seq (.block 3 (.seq (.draw [⟨(some 36), .move (.tmp 0), none, 0, false⟩,
 ⟨(some 37), .move (.tmp 8), none, 0, false⟩,
 ⟨(some 42), .move (.tmp 0), none, 0, false⟩,
 ⟨(some 43), .move (.tmp 8), none, 0, false⟩,
 ⟨(some 44), .move (.tmp 12), none, 0, false⟩,
 ⟨(some 45), .bin .add (.tmp 43) (.tmp 44), none, 0, false⟩,
 ⟨(some 46), .indexAddr 14 (.tmp 42) (.tmp 45), none, 0, false⟩,
 ⟨(some 47), .loadN 14 (.tmp 46), none, 0, false⟩,
 ⟨(some 48), .move (.tmp 0), none, 0, false⟩,
 ⟨(some 49), .move (.tmp 8), none, 0, false⟩,
 ⟨(some 50), .indexAddr 14 (.tmp 48) (.tmp 49), none, 0, false⟩,
 ⟨(some 51), .loadN 14 (.tmp 50), none, 0, false⟩,
 ⟨(some 52), .indexAddr 14 (.tmp 36) (.tmp 37), none, 0, false⟩,
 ⟨none, .store 14 (.tmp 52) (.tmp 47), none, 0, true⟩,
 ⟨(some 38), .move (.tmp 0), none, 0, false⟩,
 ⟨(some 39), .move (.tmp 8), none, 0, false⟩,
 ⟨(some 40), .move (.tmp 12), none, 0, false⟩,
 ⟨(some 41), .bin .add (.tmp 39) (.tmp 40), none, 0, false⟩,
 ⟨(some 53), .indexAddr 14 (.tmp 38) (.tmp 41), none, 1, false⟩,
 ⟨none, .store 14 (.tmp 53) (.tmp 51), none, 1, true⟩])
 (.region [⟨(some 54), .move (.tmp 0), none, 0, false⟩,
 ⟨(some 55), .move (.tmp 9), none, 0, false⟩,
 ⟨(some 56), .move (.tmp 12), none, 0, false⟩,
 ⟨(some 57), .move (.tmp 8), none, 0, false⟩,
 ⟨(some 58), .move (.tmp 3), none, 0, false⟩,
 ⟨(some 59), .call (.func 266) [(.tmp 54), (.tmp 55), (.tmp 56), (.tmp 57), (.tmp 58)], none, 0, false⟩])))
 (.region [⟨(some 34), .move (.tmp 12), none, 0, false⟩,
 ⟨(some 35), .bin .sub (.tmp 34) (.const (.int .i64 1)), none, 0, false⟩,
 ⟨(some 12), .move (.tmp 35), none, 0, false⟩]))))))))))⟩

def L257 : LFunc := ⟨67, [],
 (.seq (.region [⟨(some 13), .move (.tmp 2), none, 0, false⟩,
 ⟨(some 14), .move (.tmp 1), none, 0, false⟩,
 ⟨(some 15), .bin .sub (.tmp 13) (.tmp 14), none, 0, false⟩,
 ⟨(some 8), .move (.tmp 15), none, 0, false⟩])
 (.seq (.region [⟨(some 16), .move (.tmp 8), none, 0, false⟩,
 ⟨(some 17), .bin .geq (.tmp 16) (.const (.int .i64 8)), none, 0, false⟩])
 (.cond (.tmp 17) (.seq (.region [⟨(some 18), .move (.tmp 8), none, 0, false⟩,
 ⟨(some 19), .conv (.int .u64) (.tmp 18), none, 0, false⟩,
 ⟨(some 9), .alloc [(.int .u64 0)] 336, none, 0, false⟩,
 ⟨none, .store 1 (.tmp 9) (.tmp 19), none, 0, false⟩])
 (.seq (.region [⟨(some 20), .move (.tmp 8), none, 0, false⟩,
 ⟨(some 21), .call (.func 246) [(.tmp 20)], none, 0, false⟩,
 ⟨(some 10), .move (.tmp 21), none, 0, false⟩])
 (.seq (.region [⟨(some 22), .move (.tmp 1), none, 0, false⟩,
 ⟨(some 23), .move (.tmp 8), none, 0, false⟩,
 ⟨(some 24), .bin .quo (.tmp 23) (.const (.int .i64 4)), none, 0, false⟩,
 ⟨(some 25), .bin .mul (.tmp 24) (.const (.int .i64 2)), none, 0, false⟩,
 ⟨(some 26), .bin .add (.tmp 22) (.tmp 25), none, 0, false⟩,
 ⟨(some 27), .bin .sub (.tmp 26) (.const (.int .i64 1)), none, 0, false⟩,
 ⟨(some 11), .move (.tmp 27), none, 0, false⟩])
 (.block 0 (.loop (.seq (.seq (.region [⟨(some 28), .move (.tmp 11), none, 0, false⟩,
 ⟨(some 29), .move (.tmp 1), none, 0, false⟩,
 ⟨(some 30), .move (.tmp 8), none, 0, false⟩,
 ⟨(some 31), .bin .quo (.tmp 30) (.const (.int .i64 4)), none, 0, false⟩,
 ⟨(some 32), .bin .mul (.tmp 31) (.const (.int .i64 2)), none, 0, false⟩,
 ⟨(some 33), .bin .add (.tmp 29) (.tmp 32), none, 0, false⟩,
 ⟨(some 34), .bin .add (.tmp 33) (.const (.int .i64 1)), none, 0, false⟩,
 ⟨(some 35), .bin .leq (.tmp 28) (.tmp 34), none, 0, false⟩])
 (.cond (.tmp 35) .skip
 (.exit 0)))
 (.seq (.block 1 (.seq (.region [⟨(some 38), .call (.func 247) [(.tmp 9)], none, 0, false⟩,
 ⟨(some 39), .move (.tmp 10), none, 0, false⟩,
 ⟨(some 40), .bin .sub (.tmp 39) (.const (.int .u64 1)), none, 0, false⟩,
 ⟨(some 41), .bin .and (.tmp 38) (.tmp 40), none, 0, false⟩,
 ⟨(some 42), .conv (.int .i64) (.tmp 41), none, 0, false⟩,
 ⟨(some 12), .move (.tmp 42), none, 0, false⟩])
 (.seq (.seq (.region [⟨(some 43), .move (.tmp 12), none, 0, false⟩,
 ⟨(some 44), .move (.tmp 8), none, 0, false⟩,
 ⟨(some 45), .bin .geq (.tmp 43) (.tmp 44), none, 0, false⟩])
 (.cond (.tmp 45) (.region [⟨(some 46), .move (.tmp 12), none, 0, false⟩,
 ⟨(some 47), .move (.tmp 8), none, 0, false⟩,
 ⟨(some 48), .bin .sub (.tmp 46) (.tmp 47), none, 0, false⟩,
 ⟨(some 12), .move (.tmp 48), none, 0, false⟩])
 .skip))
 (.draw [⟨(some 49), .move (.tmp 0), none, 0, false⟩,
 ⟨(some 50), .move (.tmp 11), none, 0, false⟩,
 ⟨(some 55), .move (.tmp 0), none, 0, false⟩,
 ⟨(some 56), .move (.tmp 1), none, 0, false⟩,
 ⟨(some 57), .move (.tmp 12), none, 0, false⟩,
 ⟨(some 58), .bin .add (.tmp 56) (.tmp 57), none, 0, false⟩,
 ⟨(some 59), .indexAddr 14 (.tmp 55) (.tmp 58), none, 0, false⟩,
 ⟨(some 60), .loadN 14 (.tmp 59), none, 0, false⟩,
 ⟨(some 61), .move (.tmp 0), none, 0, false⟩,
 ⟨(some 62), .move (.tmp 11), none, 0, false⟩,
 ⟨(some 63), .indexAddr 14 (.tmp 61) (.tmp 62), none, 0, false⟩,
 ⟨(some 64), .loadN 14 (.tmp 63), none, 0, false⟩,
 ⟨(some 65), .indexAddr 14 (.tmp 49) (.tmp 50), none, 0, false⟩,
 ⟨none, .store 14 (.tmp 65) (.tmp 60), none, 0, true⟩,
 ⟨(some 51), .move (.tmp 0), none, 0, false⟩,
 ⟨(some 52), .move (.tmp 1), none, 0, false⟩,
 ⟨(some 53), .move (.tmp 12), none, 0, false⟩,
 ⟨(some 54), .bin .add (.tmp 52) (.tmp 53), none, 0, false⟩,
 ⟨(some 66), .indexAddr 14 (.tmp 51) (.tmp 54), none, 1, false⟩,
 ⟨none, .store 14 (.tmp 66) (.tmp 64), none, 1, true⟩]))))
 (.region [⟨(some 36), .move (.tmp 11), none, 0, false⟩,
 ⟨(some 37), .bin .add (.tmp 36) (.const (.int .i64 1)), none, 0, false⟩,
 ⟨(some 11), .move (.tmp 37), none, 0, false⟩]))))))))
 .skip)))⟩

def L258 : LFunc := ⟨63, [.tmp 8, .tmp 9],
 (.seq (.region [⟨(some 8), .move (.const (.int .i64 0)), none, 0, false⟩,
 ⟨(some 9), .move (.const (.int .i64 0)), none, 0, false⟩])
 (.seq (.region [⟨(some 15), .move (.tmp 2), none, 0, false⟩,
 ⟨(some 16), .move (.tmp 1), none, 0, false⟩,
 ⟨(some 17), .bin .sub (.tmp 15) (.tmp 16), none, 0, false⟩,
 ⟨(some 10), .move (.tmp 17), none, 0, false⟩])
 (.seq (.region [⟨(some 11), .alloc [(.int .i64 0)] 3, none, 0, false⟩])
 (.seq (.region [⟨(some 18), .move (.tmp 1), none, 0, false⟩,
 ⟨(some 19), .move (.tmp 10), none, 0, false⟩,
 ⟨(some 20), .bin .quo (.tmp 19) (.const (.int .i64 4)), none, 0, false⟩,
 ⟨(some 21), .bin .mul (.tmp 20) (.const (.int .i64 1)), none, 0, false⟩,
 ⟨(some 22), .bin .add (.tmp 18) (.tmp 21), none, 0, false⟩,
 ⟨(some 12), .move (.tmp 22), none, 0, false⟩])
 (.seq (.region [⟨(some 23), .move (.tmp 1), none, 0, false⟩,
 ⟨(some 24), .move (.tmp 10), none, 0, false⟩,
 ⟨(some 25), .bin .quo (.tmp 24) (.const (.int .i64 4)), none, 0, false⟩,
 ⟨(some 26), .bin .mul (.tmp 25) (.const (.int .i64 2)), none, 0, false⟩,
 ⟨(some 27), .bin .add (.tmp 23) (.tmp 26), none, 0, false⟩,
 ⟨(some 13), .move (.tmp 27), none, 0, false⟩])
 (.seq (.region [⟨(some 28), .move (.tmp 1), none, 0, false⟩,
 ⟨(some 29), .move (.tmp 10), none, 0, false⟩,
 ⟨(some 30), .bin .quo (.tmp 29) (.const (.int .i64 4)), none, 0, false⟩,
 ⟨(some 31), .bin .mul (.tmp 30) (.const (.int .i64 3)), none, 0, false⟩,
 ⟨(some 32), .bin .add (.tmp 28) (.tmp 31), none, 0, false⟩,
 ⟨(some 14), .move (.tmp 32), none, 0, false⟩])
 (.seq (.seq (.region [⟨(some 33), .move (.tmp 10), none, 0, false⟩,
 ⟨(some 34), .bin .geq (.tmp 33) (.const (.int .i64 8)), none, 0, false⟩])
 (.cond (.tmp 34) (.seq (.seq (.region [⟨(some 35), .move (.tmp 10), none, 0, false⟩,
 ⟨(some 36), .bin .geq (.tmp 35) (.const (.int .i64 50)), none, 0, false⟩])
 (.cond (.tmp 36) (.seq (.region [⟨(some 37), .move (.tmp 0), none, 0, false⟩,
 ⟨(some 38), .move (.tmp 12), none, 0, false⟩,
 ⟨(some 39), .move (.tmp 3), none, 0, false⟩,
 ⟨(some 40), .call (.func 267) [(.tmp 37), (.tmp 38), (.tmp 11), (.tmp 39)], none, 0, false⟩,
 ⟨(some 12), .move (.tmp 40), none, 0, false⟩])
 (.seq (.region [⟨(some 41), .move (.tmp 0), none, 0, false⟩,
 ⟨(some 42), .move (.tmp 13), none, 0, false⟩,
 ⟨(some 43), .move (.tmp 3), none, 0, false⟩,
 ⟨(some 44), .call (.func 267) [(.tmp 41), (.tmp 42), (.tmp 11), (.tmp 43)], none, 0, false⟩,
 ⟨(some 13), .move (.tmp 44), none, 0, false⟩])
 (.region [⟨(some 45), .move (.tmp 0), none, 0, false⟩,
 ⟨(some 46), .move (.tmp 14), none, 0, false⟩,
 ⟨(some 47), .move (.tmp 3), none, 0, false⟩,
 ⟨(some 48), .call (.func 267) [(.tmp 45), (.tmp 46), (.tmp 11), (.tmp 47)], none, 0, false⟩,
 ⟨(some 14), .move (.tmp 48), none, 0, false⟩])))
 .skip))
 (.region [⟨(some 49), .move (.tmp 0), none, 0, false⟩,
 ⟨(some 50), .move (.tmp 12), none, 0, false⟩,
 ⟨(some 51), .move (.tmp 13), none, 0, false⟩,
 ⟨(some 52), .move (.tmp 14), none, 0, false⟩,
 ⟨(some 53), .move (.tmp 3), none, 0, false⟩,
 ⟨(some 54), .call (.func 268) [(.tmp 49), (.tmp 50), (.tmp 51), (.tmp 52), (.tmp 11), (.tmp 53)], none, 0, false⟩,
 ⟨(some 13), .move (.tmp 54), none, 0, false⟩]))
 .skip))
 (.seq (.region [⟨(some 55), .load1 (.tmp 11), none, 0, false⟩])
 (.block 0 (.seq (.region [⟨(some 58), .bin .eql (.tmp 55) (.const (.int .i64 0)), none, 0, false⟩,
 ⟨(some 57), .move (.tmp 58), none, 0, false⟩])
 (.cond (.tmp 57) (.seq (.region [⟨(some 59), .move (.tmp 13), none, 0, false⟩,
 ⟨(some 8), .move (.tmp 59), none, 0, false⟩,
 ⟨(some 9), .move (.const (.int .i64 1)), none, 0, false⟩])
 .ret)
 (.seq (.region [⟨(some 61), .bin .eql (.tmp 55) (.const (.int .i64 12)), none, 0, false⟩,
 ⟨(some 60), .move (.tmp 61), none, 0, false⟩])
 (.cond (.tmp 60) (.seq (.region [⟨(some 62), .move (.tmp 13), none, 0, false⟩,
 ⟨(some 8), .move (.tmp 62), none, 0, false⟩,
 ⟨(some 9), .move (.const (.int .i64 2)), none, 0, false⟩])
 .ret)
 (.seq (.region [⟨(some 56), .move (.tmp 13), none, 0, false⟩,
 ⟨(some 8), .move (.tmp 56), none, 0, false⟩,
 ⟨(some 9), .move (.const (.int .i64 0)), none, 0, false⟩])
 .ret))))))))))))))⟩

def L259 : LFunc := ⟨34, [],
 (.seq (.region [⟨(some 10), .move (.tmp 1), none, 0, false⟩,
 ⟨(some 8), .move (.tmp 10), none, 0, false⟩])
 (.seq (.region [⟨(some 11), .move (.tmp 2), none, 0, false⟩,
 ⟨(some 12), .bin .sub (.tmp 11) (.const (.int .i64 1)), none, 0, false⟩,
 ⟨(some 9), .move (.tmp 12), none, 0, false⟩])
 (.block 0 (.loop (.seq (.seq (.region [⟨(some 13), .move (.tmp 8), none, 0, false⟩,
 ⟨(some 14), .move (.tmp 9), none, 0, false⟩,
 ⟨(some 15), .bin .lss (.tmp 13) (.tmp 14), none, 0, false⟩])
 (.cond (.tmp 15) .skip
 (.exit 0)))
 (.block 1 (.seq (.draw [⟨(some 16), .move (.tmp 0), none, 0, false⟩,
 ⟨(some 17), .move (.tmp 8), none, 0, false⟩,
 ⟨(some 20), .move (.tmp 0), none, 0, false⟩,
 ⟨(some 21), .move (.tmp 9), none, 0, false⟩,
 ⟨(some 22), .indexAddr 14 (.tmp 20) (.tmp 21), none, 0, false⟩,
 ⟨(some 23), .loadN 14 (.tmp 22), none, 0, false⟩,
 ⟨(some 24), .move (.tmp 0), none, 0, false⟩,
 ⟨(some 25), .move (.tmp 8), none, 0, false⟩,
 ⟨(some 26), .indexAddr 14 (.tmp 24) (.tmp 25), none, 0, false⟩,
 ⟨(some 27), .loadN 14 (.tmp 26), none, 0, false⟩,
 ⟨(some 28), .indexAddr 14 (.tmp 16) (.tmp 17), none, 0, false⟩,
 ⟨none, .store 14 (.tmp 28) (.tmp 23), none, 0, true⟩,
 ⟨(some 18), .move (.tmp 0), none, 0, false⟩,
 ⟨(some 19), .move (.tmp 9), none, 0, false⟩,
 ⟨(some 29), .indexAddr 14 (.tmp 18) (.tmp 19), none, 1, false⟩,
 ⟨none, .store 14 (.tmp 29) (.tmp 27), none, 1, true⟩])
 (.seq (.region [⟨(some 30), .move (.tmp 8), none, 0, false⟩,
 ⟨(some 31), .bin .add (.tmp 30) (.const (.int .i64 1)), none, 0, false⟩,
 ⟨(some 8), .move (.tmp 31), none, 0, false⟩])
 (.region [⟨(some 32), .move (.tmp 9), none, 0, false⟩,
 ⟨(some 33), .bin .sub (.tmp 32) (.const (.int .i64 1)), none, 0, false⟩,
 ⟨(some 9), .move (.tmp 33), none, 0, false⟩])))))))))⟩

def L260 : LFunc := ⟨141, [.tmp 8],
 (.seq (.region [⟨(some 8), .move (.const (.bool false)), none, 0, false⟩])
 (.seq (.region [⟨(some 13), .move (.tmp 1), none, 0, false⟩,
 ⟨(some 14), .bin .add (.tmp 13) (.const (.int .i64 1)), none, 0, false⟩,
 ⟨(some 9), .move (.tmp 14), none, 0, false⟩])
 (.seq (.seq (.region [⟨(some 10), .move (.const (.int .i64 0)), none, 0, false⟩])
 (.block 0 (.loop (.seq (.seq (.region [⟨(some 15), .move (.tmp 10), none, 0, false⟩,
 ⟨(some 16), .bin .lss (.tmp 15) (.const (.int .i64 5)), none, 0, false⟩])
 (.cond (.tmp 16) .skip
 (.exit 0)))
 (.seq (.block 1 (.seq (.block 2 (.loop (.seq (.seq (.draw [⟨(some 19), .move (.tmp 9), none, 0, false⟩,
 ⟨(some 20), .move (.tmp 2), none, 0, false⟩,
 ⟨(some 21), .bin .lss (.tmp 19) (.tmp 20), none, 0, false⟩,
 ⟨(some 22), .move (.tmp 21), none, 0, false⟩,
 ⟨(some 23), .move (.tmp 3), (some (22, true)), 0, false⟩,
 ⟨(some 24), .move (.tmp 0), (some (22, true)), 0, false⟩,
 ⟨(some 25), .move (.tmp 9), (some (22, true)), 0, false⟩,
 ⟨(some 26), .indexAddr 14 (.tmp 24) (.tmp 25), (some (22, true)), 0, false⟩,
 ⟨(some 27), .loadN 14 (.tmp 26), (some (22, true)), 0, false⟩,
 ⟨(some 28), .move (.tmp 0), (some (22, true)), 0, false⟩,
 ⟨(some 29), .move (.tmp 9), (some (22, true)), 0, false⟩,
 ⟨(some 30), .bin .sub (.tmp 29) (.const (.int .i64 1)), (some (22, true)), 0, false⟩,
 ⟨(some 31), .indexAddr 14 (.tmp 28) (.tmp 30), (some (22, true)), 0, false⟩,
 ⟨(some 32), .loadN 14 (.tmp 31), (some (22, true)), 0, false⟩,
 ⟨(some 33), .call (.tmp 23) [(.tmp 27), (.tmp 32)], (some (22, true)), 0, true⟩,
 ⟨(some 34), .bin .lss (.tmp 33) (.const (.int .i64 0)), (some (22, true)), 1, false⟩,
 ⟨(some 35), .un .not (.tmp 34), (some (22, true)), 1, false⟩,
 ⟨(some 36), .pick (.tmp 22) (.tmp 35) (.const (.bool false)), none, 1, false⟩])
 (.cond (.tmp 36) .skip
 (.exit 2)))
 (.block 3 (.region [⟨(some 37), .move (.tmp 9), none, 0, false⟩,
 ⟨(some 38), .bin .add (.tmp 37) (.const (.int .i64 1)), none, 0, false⟩,
 ⟨(some 9), .move (.tmp 38), none, 0, false⟩])))))
 (.seq (.seq (.region [⟨(some 39), .move (.tmp 9), none, 0, false⟩,
 ⟨(some 40), .move (.tmp 2), none, 0, false⟩,
 ⟨(some 41), .bin .eql (.tmp 39) (.tmp 40), none, 0, false⟩])
 (.cond (.tmp 41) (.seq (.region [⟨(some 8), .move (.const (.bool true)), none, 0, false⟩])
 .ret)
 .skip))
 (.seq (.seq (.region [⟨(some 42), .move (.tmp 2), none, 0, false⟩,
 ⟨(some 43), .move (.tmp 1), none, 0, false⟩,
 ⟨(some 44), .bin .sub (.tmp 42) (.tmp 43), none, 0, false⟩,
 ⟨(some 45), .bin .lss (.tmp 44) (.const (.int .i64 50)), none, 0, false⟩])
 (.cond (.tmp 45) (.seq (.region [⟨(some 8), .move (.const (.bool false)), none, 0, false⟩])
 .ret)
 .skip))
 (.seq (.draw [⟨(some 46), .move (.tmp 0), none, 0, false⟩,
 ⟨(some 47), .move (.tmp 9), none, 0, false⟩,
 ⟨(some 51), .move (.tmp 0), none, 0, false⟩,
 ⟨(some 52), .move (.tmp 9), none, 0, false⟩,
 ⟨(some 53), .bin .sub (.tmp 52) (.const (.int .i64 1)), none, 0, false⟩,
 ⟨(some 54), .indexAddr 14 (.tmp 51) (.tmp 53), none, 0, false⟩,
 ⟨(some 55), .loadN 14 (.tmp 54), none, 0, false⟩,
 ⟨(some 56), .move (.tmp 0), none, 0, false⟩,
 ⟨(some 57), .move (.tmp 9), none, 0, false⟩,
 ⟨(some 58), .indexAddr 14 (.tmp 56) (.tmp 57), none, 0, false⟩,
 ⟨(some 59), .loadN 14 (.tmp 58), none, 0, false⟩,
 ⟨(some 60), .indexAddr 14 (.tmp 46) (.tmp 47), none, 0, false⟩,
 ⟨none, .store 14 (.tmp 60) (.tmp 55), none, 0, true⟩,
 ⟨(some 48), .move (.tmp 0), none, 0, false⟩,
 ⟨(some 49), .move (.tmp 9), none, 0, false⟩,
 ⟨(some 50), .bin .sub (.tmp 49) (.const (.int .i64 1)), none, 0, false⟩,
 ⟨(some 61), .indexAddr 14 (.tmp 48) (.tmp 50), none, 1, false⟩,
 ⟨none, .store 14 (.tmp 61) (.tmp 59), none, 1, true⟩])
 (.seq (.seq (.region [⟨(some 62), .move (.tmp 9), none, 0, false⟩,
 ⟨(some 63), .move (.tmp 1), none, 0, false⟩,
 ⟨(some 64), .bin .sub (.tmp 62) (.tmp 63), none, 0, false⟩,
 ⟨(some 65), .bin .geq (.tmp 64) (.const (.int .i64 2)), none, 0, false⟩])
 (.cond (.tmp 65) (.seq (.region [⟨(some 66), .move (.tmp 9), none, 0, false⟩,
 ⟨(some 67), .bin .sub (.tmp 66) (.const (.int .i64 1)), none, 0, false⟩,
 ⟨(some 11), .move (.tmp 67), none, 0, false⟩])
 (.block 4 (.loop (.seq (.seq (.region [⟨(some 68), .move (.tmp 11), none, 0, false⟩,
 ⟨(some 69), .bin .geq (.tmp 68) (.const (.int .i64 1)), none, 0, false⟩])
 (.cond (.tmp 69) .skip
 (.exit 4)))
 (.seq (.block 5 (.seq (.seq (.draw [⟨(some 72), .move (.tmp 3), none, 0, false⟩,
 ⟨(some 73), .move (.tmp 0), none, 0, false⟩,
 ⟨(some 74), .move (.tmp 11), none, 0, false⟩,
 ⟨(some 75), .indexAddr 14 (.tmp 73) (.tmp 74), none, 0, false⟩,
 ⟨(some 76), .loadN 14 (.tmp 75), none, 0, false⟩,
 ⟨(some 77), .move (.tmp 0), none, 0, false⟩,
 ⟨(some 78), .move (.tmp 11), none, 0, false⟩,
 ⟨(some 79), .bin .sub (.tmp 78) (.const (.int .i64 1)), none, 0, false⟩,
 ⟨(some 80), .indexAddr 14 (.tmp 77) (.tmp 79), none, 0, false⟩,
 ⟨(some 81), .loadN 14 (.tmp 80), none, 0, false⟩,
 ⟨(some 82), .call (.tmp 72) [(.tmp 76), (.tmp 81)], none, 0, true⟩,
 ⟨(some 83), .bin .lss (.tmp 82) (.const (.int .i64 0)), none, 1, false⟩,
 ⟨(some 84), .un .not (.tmp 83), none, 1, false⟩])
 (.cond (.tmp 84) (.exit 4)
 .skip))
 (.draw [⟨(some 85), .move (.tmp 0), none, 0, false⟩,
 ⟨(some 86), .move (.tmp 11), none, 0, false⟩,
 ⟨(some 90), .move (.tmp 0), none, 0, false⟩,
 ⟨(some 91), .move (.tmp 11), none, 0, false⟩,
 ⟨(some 92), .bin .sub (.tmp 91) (.const (.int .i64 1)), none, 0, false⟩,
 ⟨(some 93), .indexAddr 14 (.tmp 90) (.tmp 92), none, 0, false⟩,
 ⟨(some 94), .loadN 14 (.tmp 93), none, 0, false⟩,
 ⟨(some 95), .move (.tmp 0), none, 0, false⟩,
 ⟨(some 96), .move (.tmp 11), none, 0, false⟩,
 ⟨(some 97), .indexAddr 14 (.tmp 95) (.tmp 96), none, 0, false⟩,
 ⟨(some 98), .loadN 14 (.tmp 97), none, 0, false⟩,
 ⟨(some 99), .indexAddr 14 (.tmp 85) (.tmp 86), none, 0, false⟩,
 ⟨none, .store 14 (.tmp 99) (.tmp 94), none, 0, true⟩,
 ⟨(some 87), .move (.tmp 0), none, 0, false⟩,
 ⟨(some 88), .move (.tmp 11), none, 0, false⟩,
 ⟨(some 89), .bin .sub (.tmp 88) (.const (.int .i64 1)), none, 0, false⟩,
 ⟨(some 100), .indexAddr 14 (.tmp 87) (.tmp 89), none, 1, false⟩,
 ⟨none, .store 14 (.tmp 100) (.tmp 98), none, 1, true⟩])))
 (.region [⟨(some 70), .move (.tmp 11), none, 0, false⟩,
 ⟨(some 71), .bin .sub (.tmp 70) (.const (.int .i64 1)), none, 0, false⟩,
 ⟨(some 11), .move (.tmp 71), none, 0, false⟩]))))))
 .skip))
 (.seq (.region [⟨(some 101), .move (.tmp 2), none, 0, false⟩,
 ⟨(some 102), .move (.tmp 9), none, 0, false⟩,
 ⟨(some 103), .bin .sub (.tmp 101) (.tmp 102), none, 0, false⟩,
 ⟨(some 104), .bin .geq (.tmp 103) (.const (.int .i64 2)), none, 0, false⟩])
 (.cond (.tmp 104) (.seq (.region [⟨(some 105), .move (.tmp 9), none, 0, false⟩,
 ⟨(some 106), .bin .add (.tmp 105) (.const (.int .i64 1)), none, 0, false⟩,
 ⟨(some 12), .move (.tmp 106), none, 0, false⟩])
 (.block 6 (.loop (.seq (.seq (.region [⟨(some 107), .move (.tmp 12), none, 0, false⟩,
 ⟨(some 108), .move (.tmp 2), none, 0, false⟩,
 ⟨(some 109), .bin .lss (.tmp 107) (.tmp 108), none, 0, false⟩])
 (.cond (.tmp 109) .skip
 (.exit 6)))
 (.seq (.block 7 (.seq (.seq (.draw [⟨(some 112), .move (.tmp 3), none, 0, false⟩,
 ⟨(some 113), .move (.tmp 0), none, 0, false⟩,
 ⟨(some 114), .move (.tmp 12), none, 0, false⟩,
 ⟨(some 115), .indexAddr 14 (.tmp 113) (.tmp 114), none, 0, false⟩,
 ⟨(some 116), .loadN 14 (.tmp 115), none, 0, false⟩,
 ⟨(some 117), .move (.tmp 0), none, 0, false⟩,
 ⟨(some 118), .move (.tmp 12), none, 0, false⟩,
 ⟨(some 119), .bin .sub (.tmp 118) (.const (.int .i64 1)), none, 0, false⟩,
 ⟨(some 120), .indexAddr 14 (.tmp 117) (.tmp 119), none, 0, false⟩,
 ⟨(some 121), .loadN 14 (.tmp 120), none, 0, false⟩,
 ⟨(some 122), .call (.tmp 112) [(.tmp 116), (.tmp 121)], none, 0, true⟩,
 ⟨(some 123), .bin .lss (.tmp 122) (.const (.int .i64 0)), none, 1, false⟩,
 ⟨(some 124), .un .not (.tmp 123), none, 1, false⟩])
 (.cond (.tmp 124) (.exit 6)
 .skip))
 (.draw [⟨(some 125), .move (.tmp 0), none, 0, false⟩,
 ⟨(some 126), .move (.tmp 12), none, 0, false⟩,
 ⟨(some 130), .move (.tmp 0), none, 0, false⟩,
 ⟨(some 131), .move (.tmp 12), none, 0, false⟩,
 ⟨(some 132), .bin .sub (.tmp 131) (.const (.int .i64 1)), none, 0, false⟩,
 ⟨(some 133), .indexAddr 14 (.tmp 130) (.tmp 132), none, 0, false⟩,
 ⟨(some 134), .loadN 14 (.tmp 133), none, 0, false⟩,
 ⟨(some 135), .move (.tmp 0), none, 0, false⟩,
 ⟨(some 136), .move (.tmp 12), none, 0, false⟩,
 ⟨(some 137), .indexAddr 14 (.tmp 135) (.tmp 136), none, 0, false⟩,
 ⟨(some 138), .loadN 14 (.tmp 137), none, 0, false⟩,
 ⟨(some 139), .indexAddr 14 (.tmp 125) (.tmp 126), none, 0, false⟩,
 ⟨none, .store 14 (.tmp 139) (.tmp 134), none, 0, true⟩,
 ⟨(some 127), .move (.tmp 0), none, 0, false⟩,
 ⟨(some 128), .move (.tmp 12), none, 0, false⟩,
 ⟨(some 129), .bin .sub (.tmp 128) (.const (.int .i64 1)), none, 0, false⟩,
 ⟨(some 140), .indexAddr 14 (.tmp 127) (.tmp 129), none, 1, false⟩,
 ⟨none, .store 14 (.tmp 140) (.tmp 138), none, 1, true⟩])))
 (.region [⟨(some 110), .move (.tmp 12), none, 0, false⟩,
 ⟨(some 111), .bin .add (.tmp 110) (.const (.int .i64 1)), none, 0, false⟩,
 ⟨(some 12), .move (.tmp 111), none, 0, false⟩]))))))
 .skip))))))))
 (.region [⟨(some 17), .move (.tmp 10), none, 0, false⟩,
 ⟨(some 18), .bin .add (.tmp 17) (.const (.int .i64 1)), none, 0, false⟩,
 ⟨(some 10), .move (.tmp 18), none, 0, false⟩]))))))
 (.seq (.region [⟨(some 8), .move (.const (.bool false)), none, 0, false⟩])
 .ret))))⟩

def L261 : LFunc := ⟨90, [.tmp 10],
 (.seq (.region [⟨(some 10), .move (.const (.int .i64 0)), none, 0, false⟩])
 (.seq (.draw [⟨(some 13), .move (.tmp 0), none, 0, false⟩,
 ⟨(some 14), .move (.tmp 1), none, 0, false⟩,
 ⟨(some 17), .move (.tmp 0), none, 0, false⟩,
 ⟨(some 18), .move (.tmp 3), none, 0, false⟩,
 ⟨(some 19), .indexAddr 14 (.tmp 17) (.tmp 18), none, 0, false⟩,
 ⟨(some 20), .loadN 14 (.tmp 19), none, 0, false⟩,
 ⟨(some 21), .move (.tmp 0), none, 0, false⟩,
 ⟨(some 22), .move (.tmp 1), none, 0, false⟩,
 ⟨(some 23), .indexAddr 14 (.tmp 21) (.tmp 22), none, 0, false⟩,
 ⟨(some 24), .loadN 14 (.tmp 23), none, 0, false⟩,
 ⟨(some 25), .indexAddr 14 (.tmp 13) (.tmp 14), none, 0, false⟩,
 ⟨none, .store 14 (.tmp 25) (.tmp 20), none, 0, true⟩,
 ⟨(some 15), .move (.tmp 0), none, 0, false⟩,
 ⟨(some 16), .move (.tmp 3), none, 0, false⟩,
 ⟨(some 26), .indexAddr 14 (.tmp 15) (.tmp 16), none, 1, false⟩,
 ⟨none, .store 14 (.tmp 26) (.tmp 24), none, 1, true⟩])
 (.seq (.region [⟨(some 27), .move (.tmp 1), none, 0, false⟩,
 ⟨(some 28), .bin .add (.tmp 27) (.const (.int .i64 1)), none, 0, false⟩,
 ⟨(some 29), .move (.tmp 2), none, 0, false⟩,
 ⟨(some 30), .bin .sub (.tmp 29) (.const (.int .i64 1)), none, 0, false⟩,
 ⟨(some 11), .move (.tmp 28), none, 0, false⟩,
 ⟨(some 12), .move (.tmp 30), none, 0, false⟩])
 (.seq (.block 0 (.loop (.block 1 (.seq (.block 2 (.loop (.seq (.seq (.draw [⟨(some 31), .move (.tmp 11), none, 0, false⟩,
 ⟨(some 32), .move (.tmp 12), none, 0, false⟩,
 ⟨(some 33), .bin .leq (.tmp 31) (.tmp 32), none, 0, false⟩,
 ⟨(some 34), .move (.tmp 33), none, 0, false⟩,
 ⟨(some 35), .move (.tmp 4), (some (34, true)), 0, false⟩,
 ⟨(some 36), .move (.tmp 0), (some (34, true)), 0, false⟩,
 ⟨(some 37), .move (.tmp 1), (some (34, true)), 0, false⟩,
 ⟨(some 38), .indexAddr 14 (.tmp 36) (.tmp 37), (some (34, true)), 0, false⟩,
 ⟨(some 39), .loadN 14 (.tmp 38), (some (34, true)), 0, false⟩,
 ⟨(some 40), .move (.tmp 0), (some (34, true)), 0, false⟩,
 ⟨(some 41), .move (.tmp 11), (some (34, true)), 0, false⟩,
 ⟨(some 42), .indexAddr 14 (.tmp 40) (.tmp 41), (some (34, true)), 0, false⟩,
 ⟨(some 43), .loadN 14 (.tmp 42), (some (34, true)), 0, false⟩,
 ⟨(some 44), .call (.tmp 35) [(.tmp 39), (.tmp 43)], (some (34, true)), 0, true⟩,
 ⟨(some 45), .bin .lss (.tmp 44) (.const (.int .i64 0)), (some (34, true)), 1, false⟩,
 ⟨(some 46), .un .not (.tmp 45), (some (34, true)), 1, false⟩,
 ⟨(some 47), .pick (.tmp 34) (.tmp 46) (.const (.bool false)), none, 1, false⟩])
 (.cond (.tmp 47) .skip
 (.exit 2)))
 (.block 3 (.region [⟨(some 48), .move (.tmp 11), none, 0, false⟩,
 ⟨(some 49), .bin .add (.tmp 48) (.const (.int .i64 1)), none, 0, false⟩,
 ⟨(some 11), .move (.tmp 49), none, 0, false⟩])))))
 (.seq (.block 4 (.loop (.seq (.seq (.draw [⟨(some 50), .move (.tmp 11), none, 0, false⟩,
 ⟨(some 51), .move (.tmp 12), none, 0, false⟩,
 ⟨(some 52), .bin .leq (.tmp 50) (.tmp 51), none, 0, false⟩,
 ⟨(some 53), .move (.tmp 52), none, 0, false⟩,
 ⟨(some 54), .move (.tmp 4), (some (53, true)), 0, false⟩,
 ⟨(some 55), .move (.tmp 0), (some (53, true)), 0, false⟩,
 ⟨(some 56), .move (.tmp 1), (some (53, true)), 0, false⟩,
 ⟨(some 57), .indexAddr 14 (.tmp 55) (.tmp 56), (some (53, true)), 0, false⟩,
 ⟨(some 58), .loadN 14 (.tmp 57), (some (53, true)), 0, false⟩,
 ⟨(some 59), .move (.tmp 0), (some (53, true)), 0, false⟩,
 ⟨(some 60), .move (.tmp 12), (some (53, true)), 0, false⟩,
 ⟨(some 61), .indexAddr 14 (.tmp 59) (.tmp 60), (some (53, true)), 0, false⟩,
 ⟨(some 62), .loadN 14 (.tmp 61), (some (53, true)), 0, false⟩,
 ⟨(some 63), .call (.tmp 54) [(.tmp 58), (.tmp 62)], (some (53, true)), 0, true⟩,
 ⟨(some 64), .bin .lss (.tmp 63) (.const (.int .i64 0)), (some (53, true)), 1, false⟩,
 ⟨(some 65), .pick (.tmp 53) (.tmp 64) (.const (.bool false)), none, 1, false⟩])
 (.cond (.tmp 65) .skip
 (.exit 4)))
 (.block 5 (.region [⟨(some 66), .move (.tmp 12), none, 0, false⟩,
 ⟨(some 67), .bin .sub (.tmp 66) (.const (.int .i64 1)), none, 0, false⟩,
 ⟨(some 12), .move (.tmp 67), none, 0, false⟩])))))
 (.seq (.seq (.region [⟨(some 68), .move (.tmp 11), none, 0, false⟩,
 ⟨(some 69), .move (.tmp 12), none, 0, false⟩,
 ⟨(some 70), .bin .gtr (.tmp 68) (.tmp 69), none, 0, false⟩])
 (.cond (.tmp 70) (.exit 0)
 .skip))
 (.seq (.draw [⟨(some 71), .move (.tmp 0), none, 0, false⟩,
 ⟨(some 72), .move (.tmp 11), none, 0, false⟩,
 ⟨(some 75), .move (.tmp 0), none, 0, false⟩,
 ⟨(some 76), .move (.tmp 12), none, 0, false⟩,
 ⟨(some 77), .indexAddr 14 (.tmp 75) (.tmp 76), none, 0, false⟩,
 ⟨(some 78), .loadN 14 (.tmp 77), none, 0, false⟩,
 ⟨(some 79), .move (.tmp 0), none, 0, false⟩,
 ⟨(some 80), .move (.tmp 11), none, 0, false⟩,
 ⟨(some 81), .indexAddr 14 (.tmp 79) (.tmp 80), none, 0, false⟩,
 ⟨(some 82), .loadN 14 (.tmp 81), none, 0, false⟩,
 ⟨(some 83), .indexAddr 14 (.tmp 71) (.tmp 72), none, 0, false⟩,
 ⟨none, .store 14 (.tmp 83) (.tmp 78), none, 0, true⟩,
 ⟨(some 73), .move (.tmp 0), none, 0, false⟩,
 ⟨(some 74), .move (.tmp 12), none, 0, false⟩,
 ⟨(some 84), .indexAddr 14 (.tmp 73) (.tmp 74), none, 1, false⟩,
 ⟨none, .store 14 (.tmp 84) (.tmp 82), none, 1, true⟩])
 (.seq (.region [⟨(some 85), .move (.tmp 11), none, 0, false⟩,
 ⟨(some 86), .bin .add (.tmp 85) (.const (.int .i64 1)), none, 0, false⟩,
 ⟨(some 11), .move (.tmp 86), none, 0, false⟩])
 (.region [⟨(some 87), .move (.tmp 12), none, 0, false⟩,
 ⟨(some 88), .bin .sub (.tmp 87) (.const (.int .i64 1)), none, 0, false⟩,
 ⟨(some 12), .move (.tmp 88), none, 0, false⟩])))))))))
 (.seq (.region [⟨(some 89), .move (.tmp 11), none, 0, false⟩,
 ⟨(some 10), .move (.tmp 89), none, 0, false⟩])
 .ret)))))⟩

def L262 : LFunc := ⟨178, [.tmp 10, .tmp 11],
 (.seq (.region [⟨(some 10), .move (.const (.int .i64 0)), none, 0, false⟩,
 ⟨(some 11), .move (.const (.bool false)), none, 0, false⟩])
 (.seq (.draw [⟨(some 14), .move (.tmp 0), none, 0, false⟩,
 ⟨(some 15), .move (.tmp 1), none, 0, false⟩,
 ⟨(some 18), .move (.tmp 0), none, 0, false⟩,
 ⟨(some 19), .move (.tmp 3), none, 0, false⟩,
 ⟨(some 20), .indexAddr 14 (.tmp 18) (.tmp 19), none, 0, false⟩,
 ⟨(some 21), .loadN 14 (.tmp 20), none, 0, false⟩,
 ⟨(some 22), .move (.tmp 0), none, 0, false⟩,
 ⟨(some 23), .move (.tmp 1), none, 0, false⟩,
 ⟨(some 24), .indexAddr 14 (.tmp 22) (.tmp 23), none, 0, false⟩,
 ⟨(some 25), .loadN 14 (.tmp 24), none, 0, false⟩,
 ⟨(some 26), .indexAddr 14 (.tmp 14) (.tmp 15), none, 0, false⟩,
 ⟨none, .store 14 (.tmp 26) (.tmp 21), none, 0, true⟩,
 ⟨(some 16), .move (.tmp 0), none, 0, false⟩,
 ⟨(some 17), .move (.tmp 3), none, 0, false⟩,
 ⟨(some 27), .indexAddr 14 (.tmp 16) (.tmp 17), none, 1, false⟩,
 ⟨none, .store 14 (.tmp 27) (.tmp 25), none, 1, true⟩])
 (.seq (.region [⟨(some 28), .move (.tmp 1), none, 0, false⟩,
 ⟨(some 29), .bin .add (.tmp 28) (.const (.int .i64 1)), none, 0, false⟩,
 ⟨(some 30), .move (.tmp 2), none, 0, false⟩,
 ⟨(some 31), .bin .sub (.tmp 30) (.const (.int .i64 1)), none, 0, false⟩,
 ⟨(some 12), .move (.tmp 29), none, 0, false⟩,
 ⟨(some 13), .move (.tmp 31), none, 0, false⟩])
 (.seq (.block 0 (.loop (.seq (.seq (.draw [⟨(some 32), .move (.tmp 12), none, 0, false⟩,
 ⟨(some 33), .move (.tmp 13), none, 0, false⟩,
 ⟨(some 34), .bin .leq (.tmp 32) (.tmp 33), none, 0, false⟩,
 ⟨(some 35), .move (.tmp 34), none, 0, false⟩,
 ⟨(some 36), .move (.tmp 4), (some (35, true)), 0, false⟩,
 ⟨(some 37), .move (.tmp 0), (some (35, true)), 0, false⟩,
 ⟨(some 38), .move (.tmp 12), (some (35, true)), 0, false⟩,
 ⟨(some 39), .indexAddr 14 (.tmp 37) (.tmp 38), (some (35, true)), 0, false⟩,
 ⟨(some 40), .loadN 14 (.tmp 39), (some (35, true)), 0, false⟩,
 ⟨(some 41), .move (.tmp 0), (some (35, true)), 0, false⟩,
 ⟨(some 42), .move (.tmp 1), (some (35, true)), 0, false⟩,
 ⟨(some 43), .indexAddr 14 (.tmp 41) (.tmp 42), (some (35, true)), 0, false⟩,
 ⟨(some 44), .loadN 14 (.tmp 43), (some (35, true)), 0, false⟩,
 ⟨(some 45), .call (.tmp 36) [(.tmp 40), (.tmp 44)], (some (35, true)), 0, true⟩,
 ⟨(some 46), .bin .lss (.tmp 45) (.const (.int .i64 0)), (some (35, true)), 1, false⟩,
 ⟨(some 47), .pick (.tmp 35) (.tmp 46) (.const (.bool false)), none, 1, false⟩])
 (.cond (.tmp 47) .skip
 (.exit 0)))
 (.block 1 (.region [⟨(some 48), .move (.tmp 12), none, 0, false⟩,
 ⟨(some 49), .bin .add (.tmp 48) (.const (.int .i64 1)), none, 0, false⟩,
 ⟨(some 12), .move (.tmp 49), none, 0, false⟩])))))
 (.seq (.block 2 (.loop (.seq (.seq (.draw [⟨(some 50), .move (.tmp 12), none, 0, false⟩,
 ⟨(some 51), .move (.tmp 13), none, 0, false⟩,
 ⟨(some 52), .bin .leq (.tmp 50) (.tmp 51), none, 0, false⟩,
 ⟨(some 53), .move (.tmp 52), none, 0, false⟩,
 ⟨(some 54), .move (.tmp 4), (some (53, true)), 0, false⟩,
 ⟨(some 55), .move (.tmp 0), (some (53, true)), 0, false⟩,
 ⟨(some 56), .move (.tmp 13), (some (53, true)), 0, false⟩,
 ⟨(some 57), .indexAddr 14 (.tmp 55) (.tmp 56), (some (53, true)), 0, false⟩,
 ⟨(some 58), .loadN 14 (.tmp 57), (some (53, true)), 0, false⟩,
 ⟨(some 59), .move (.tmp 0), (some (53, true)), 0, false⟩,
 ⟨(some 60), .move (.tmp 1), (some (53, true)), 0, false⟩,
 ⟨(some 61), .indexAddr 14 (.tmp 59) (.tmp 60), (some (53, true)), 0, false⟩,
 ⟨(some 62), .loadN 14 (.tmp 61), (some (53, true)), 0, false⟩,
 ⟨(some 63), .call (.tmp 54) [(.tmp 58), (.tmp 62)], (some (53, true)), 0, true⟩,
 ⟨(some 64), .bin .lss (.tmp 63) (.const (.int .i64 0)), (some (53, true)), 1, false⟩,
 ⟨(some 65), .un .not (.tmp 64), (some (53, true)), 1, false⟩,
 ⟨(some 66), .pick (.tmp 53) (.tmp 65) (.const (.bool false)), none, 1, false⟩])
 (.cond (.tmp 66) .skip
 (.exit 2)))
 (.block 3 (.region [⟨(some 67), .move (.tmp 13), none, 0, false⟩,
 ⟨(some 68), .bin .sub (.tmp 67) (.const (.int .i64 1)), none, 0, false⟩,
 ⟨(some 13), .move (.tmp 68), none, 0, false⟩])))))
 (.seq (.seq (.region [⟨(some 69), .move (.tmp 12), none, 0, false⟩,
 ⟨(some 70), .move (.tmp 13), none, 0, false⟩,
 ⟨(some 71), .bin .gtr (.tmp 69) (.tmp 70), none, 0, false⟩])
 (.cond (.tmp 71) (.seq (.draw [⟨(some 72), .move (.tmp 0), none, 0, false⟩,
 ⟨(some 73), .move (.tmp 13), none, 0, false⟩,
 ⟨(some 76), .move (.tmp 0), none, 0, false⟩,
 ⟨(some 77), .move (.tmp 1), none, 0, false⟩,
 ⟨(some 78), .indexAddr 14 (.tmp 76) (.tmp 77), none, 0, false⟩,
 ⟨(some 79), .loadN 14 (.tmp 78), none, 0, false⟩,
 ⟨(some 80), .move (.tmp 0), none, 0, false⟩,
 ⟨(some 81), .move (.tmp 13), none, 0, false⟩,
 ⟨(some 82), .indexAddr 14 (.tmp 80) (.tmp 81), none, 0, false⟩,
 ⟨(some 83), .loadN 14 (.tmp 82), none, 0, false⟩,
 ⟨(some 84), .indexAddr 14 (.tmp 72) (.tmp 73), none, 0, false⟩,
 ⟨none, .store 14 (.tmp 84) (.tmp 79), none, 0, true⟩,
 ⟨(some 74), .move (.tmp 0), none, 0, false⟩,
 ⟨(some 75), .move (.tmp 1), none, 0, false⟩,
 ⟨(some 85), .indexAddr 14 (.tmp 74) (.tmp 75), none, 1, false⟩,
 ⟨none, .store 14 (.tmp 85) (.tmp 83), none, 1, true⟩])
 (.seq (.region [⟨(some 86), .move (.tmp 13), none, 0, false⟩,
 ⟨(some 10), .move (.tmp 86), none, 0, false⟩,
 ⟨(some 11), .move (.const (.bool true)), none, 0, false⟩])
 .ret))
 .skip))
 (.seq (.draw [⟨(some 87), .move (.tmp 0), none, 0, false⟩,
 ⟨(some 88), .move (.tmp 12), none, 0, false⟩,
 ⟨(some 91), .move (.tmp 0), none, 0, false⟩,
 ⟨(some 92), .move (.tmp 13), none, 0, false⟩,
 ⟨(some 93), .indexAddr 14 (.tmp 91) (.tmp 92), none, 0, false⟩,
 ⟨(some 94), .loadN 14 (.tmp 93), none, 0, false⟩,
 ⟨(some 95), .move (.tmp 0), none, 0, false⟩,
 ⟨(some 96), .move (.tmp 12), none, 0, false⟩,
 ⟨(some 97), .indexAddr 14 (.tmp 95) (.tmp 96), none, 0, false⟩,
 ⟨(some 98), .loadN 14 (.tmp 97), none, 0, false⟩,
 ⟨(some 99), .indexAddr 14 (.tmp 87) (.tmp 88), none, 0, false⟩,
 ⟨none, .store 14 (.tmp 99) (.tmp 94), none, 0, true⟩,
 ⟨(some 89), .move (.tmp 0), none, 0, false⟩,
 ⟨(some 90), .move (.tmp 13), none, 0, false⟩,
 ⟨(some 100), .indexAddr 14 (.tmp 89) (.tmp 90), none, 1, false⟩,
 ⟨none, .store 14 (.tmp 100) (.tmp 98), none, 1, true⟩])
 (.seq (.region [⟨(some 101), .move (.tmp 12), none, 0, false⟩,
 ⟨(some 102), .bin .add (.tmp 101) (.const (.int .i64 1)), none, 0, false⟩,
 ⟨(some 12), .move (.tmp 102), none, 0, false⟩])
 (.seq (.region [⟨(some 103), .move (.tmp 13), none, 0, false⟩,
 ⟨(some 104), .bin .sub (.tmp 103) (.const (.int .i64 1)), none, 0, false⟩,
 ⟨(some 13), .move (.tmp 104), none, 0, false⟩])
 (.seq (.block 4 (.loop (.block 5 (.seq (.block 6 (.loop (.seq (.seq (.draw [⟨(some 105), .move (.tmp 12), none, 0, false⟩,
 ⟨(some 106), .move (.tmp 13), none, 0, false⟩,
 ⟨(some 107), .bin .leq (.tmp 105) (.tmp 106), none, 0, false⟩,
 ⟨(some 108), .move (.tmp 107), none, 0, false⟩,
 ⟨(some 109), .move (.tmp 4), (some (108, true)), 0, false⟩,
 ⟨(some 110), .move (.tmp 0), (some (108, true)), 0, false⟩,
 ⟨(some 111), .move (.tmp 12), (some (108, true)), 0, false⟩,
 ⟨(some 112), .indexAddr 14 (.tmp 110) (.tmp 111), (some (108, true)), 0, false⟩,
 ⟨(some 113), .loadN 14 (.tmp 112), (some (108, true)), 0, false⟩,
 ⟨(some 114), .move (.tmp 0), (some (108, true)), 0, false⟩,
 ⟨(some 115), .move (.tmp 1), (some (108, true)), 0, false⟩,
 ⟨(some 116), .indexAddr 14 (.tmp 114) (.tmp 115), (some (108, true)), 0, false⟩,
 ⟨(some 117), .loadN 14 (.tmp 116), (some (108, true)), 0, false⟩,
 ⟨(some 118), .call (.tmp 109) [(.tmp 113), (.tmp 117)], (some (108, true)), 0, true⟩,
 ⟨(some 119), .bin .lss (.tmp 118) (.const (.int .i64 0)), (some (108, true)), 1, false⟩,
 ⟨(some 120), .pick (.tmp 108) (.tmp 119) (.const (.bool false)), none, 1, false⟩])
 (.cond (.tmp 120) .skip
 (.exit 6)))
 (.block 7 (.region [⟨(some 121), .move (.tmp 12), none, 0, false⟩,
 ⟨(some 122), .bin .add (.tmp 121) (.const (.int .i64 1)), none, 0, false⟩,
 ⟨(some 12), .move (.tmp 122), none, 0, false⟩])))))
 (.seq (.block 8 (.loop (.seq (.seq (.draw [⟨(some 123), .move (.tmp 12), none, 0, false⟩,
 ⟨(some 124), .move (.tmp 13), none, 0, false⟩,
 ⟨(some 125), .bin .leq (.tmp 123) (.tmp 124), none, 0, false⟩,
 ⟨(some 126), .move (.tmp 125), none, 0, false⟩,
 ⟨(some 127), .move (.tmp 4), (some (126, true)), 0, false⟩,
 ⟨(some 128), .move (.tmp 0), (some (126, true)), 0, false⟩,
 ⟨(some 129), .move (.tmp 13), (some (126, true)), 0, false⟩,
 ⟨(some 130), .indexAddr 14 (.tmp 128) (.tmp 129), (some (126, true)), 0, false⟩,
 ⟨(some 131), .loadN 14 (.tmp 130), (some (126, true)), 0, false⟩,
 ⟨(some 132), .move (.tmp 0), (some (126, true)), 0, false⟩,
 ⟨(some 133), .move (.tmp 1), (some (126, true)), 0, false⟩,
 ⟨(some 134), .indexAddr 14 (.tmp 132) (.tmp 133), (some (126, true)), 0, false⟩,
 ⟨(some 135), .loadN 14 (.tmp 134), (some (126, true)), 0, false⟩,
 ⟨(some 136), .call (.tmp 127) [(.tmp 131), (.tmp 135)], (some (126, true)), 0, true⟩,
 ⟨(some 137), .bin .lss (.tmp 136) (.const (.int .i64 0)), (some (126, true)), 1, false⟩,
 ⟨(some 138), .un .not (.tmp 137), (some (126, true)), 1, false⟩,
 ⟨(some 139), .pick (.tmp 126) (.tmp 138) (.const (.bool false)), none, 1, false⟩])
 (.cond (.tmp 139) .skip
 (.exit 8)))
 (.block 9 (.region [⟨(some 140), .move (.tmp 13), none, 0, false⟩,
 ⟨(some 141), .bin .sub (.tmp 140) (.const (.int .i64 1)), none, 0, false⟩,
 ⟨(some 13), .move (.tmp 141), none, 0, false⟩])))))
 (.seq (.seq (.region [⟨(some 142), .move (.tmp 12), none, 0, false⟩,
 ⟨(some 143), .move (.tmp 13), none, 0, false⟩,
 ⟨(some 144), .bin .gtr (.tmp 142) (.tmp 143), none, 0, false⟩])
 (.cond (.tmp 144) (.exit 4)
 .skip))
 (.seq (.draw [⟨(some 145), .move (.tmp 0), none, 0, false⟩,
 ⟨(some 146), .move (.tmp 12), none, 0, false⟩,
 ⟨(some 149), .move (.tmp 0), none, 0, false⟩,
 ⟨(some 150), .move (.tmp 13), none, 0, false⟩,
 ⟨(some 151), .indexAddr 14 (.tmp 149) (.tmp 150), none, 0, false⟩,
 ⟨(some 152), .loadN 14 (.tmp 151), none, 0, false⟩,
 ⟨(some 153), .move (.tmp 0), none, 0, false⟩,
 ⟨(some 154), .move (.tmp 12), none, 0, false⟩,
 ⟨(some 155), .indexAddr 14 (.tmp 153) (.tmp 154), none, 0, false⟩,
 ⟨(some 156), .loadN 14 (.tmp 155), none, 0, false⟩,
 ⟨(some 157), .indexAddr 14 (.tmp 145) (.tmp 146), none, 0, false⟩,
 ⟨none, .store 14 (.tmp 157) (.tmp 152), none, 0, true⟩,
 ⟨(some 147), .move (.tmp 0), none, 0, false⟩,
 ⟨(some 148), .move (.tmp 13), none, 0, false⟩,
 ⟨(some 158), .indexAddr 14 (.tmp 147) (.tmp 148), none, 1, false⟩,
 ⟨none, .store 14 (.tmp 158) (.tmp 156), none, 1, true⟩])
 (.seq (.region [⟨(some 159), .move (.tmp 12), none, 0, false⟩,
 ⟨(some 160), .bin .add (.tmp 159) (.const (.int .i64 1)), none, 0, false⟩,
 ⟨(some 12), .move (.tmp 160), none, 0, false⟩])
 (.region [⟨(some 161), .move (.tmp 13), none, 0, false⟩,
 ⟨(some 162), .bin .sub (.tmp 161) (.const (.int .i64 1)), none, 0, false⟩,
 ⟨(some 13), .move (.tmp 162), none, 0, false⟩])))))))))
 (.seq (.draw [⟨(some 163), .move (.tmp 0), none, 0, false⟩,
 ⟨(some 164), .move (.tmp 13), none, 0, false⟩,
 ⟨(some 167), .move (.tmp 0), none, 0, false⟩,
 ⟨(some 168), .move (.tmp 1), none, 0, false⟩,
 ⟨(some 169), .indexAddr 14 (.tmp 167) (.tmp 168), none, 0, false⟩,
 ⟨(some 170), .loadN 14 (.tmp 169), none, 0, false⟩,
 ⟨(some 171), .move (.tmp 0), none, 0, false⟩,
 ⟨(some 172), .move (.tmp 13), none, 0, false⟩,
 ⟨(some 173), .indexAddr 14 (.tmp 171) (.tmp 172), none, 0, false⟩,
 ⟨(some 174), .loadN 14 (.tmp 173), none, 0, false⟩,
 ⟨(some 175), .indexAddr 14 (.tmp 163) (.tmp 164), none, 0, false⟩,
 ⟨none, .store 14 (.tmp 175) (.tmp 170), none, 0, true⟩,
 ⟨(some 165), .move (.tmp 0), none, 0, false⟩,
 ⟨(some 166), .move (.tmp 1), none, 0, false⟩,
 ⟨(some 176), .indexAddr 14 (.tmp 165) (.tmp 166), none, 1, false⟩,
 ⟨none, .store 14 (.tmp 176) (.tmp 174), none, 1, true⟩])
 (.seq (.region [⟨(some 177), .move (.tmp 13), none, 0, false⟩,
 ⟨(some 10), .move (.tmp 177), none, 0, false⟩,
 ⟨(some 11), .move (.const (.bool false)), none, 0, false⟩])
 .ret))))))))))))⟩

def L263 : LFunc := ⟨22, [.tmp 4],
 (.seq (.region [⟨(some 4), .move (.const (.int .u32 0)), none, 0, false⟩])
 (.seq (.region [⟨(some 8), .move (.tmp 0), none, 0, false⟩,
 ⟨(some 9), .un .xor (.tmp 8), none, 0, false⟩,
 ⟨(some 5), .move (.tmp 9), none, 0, false⟩])
 (.seq (.seq (.region [⟨(some 10), .move (.tmp 1), none, 0, false⟩,
 ⟨(some 11), .len false (.tmp 10), none, 0, false⟩,
 ⟨(some 12), .move (.const (.int .i64 0)), none, 0, false⟩])
 (.block 0 (.loop (.seq (.region [⟨(some 13), .bin .lss (.tmp 12) (.tmp 11), none, 0, false⟩])
 (.seq (.cond (.tmp 13) .skip
 (.exit 0))
 (.seq (.block 1 (.seq (.region [⟨(some 14), .indexAddr 1 (.tmp 10) (.tmp 12), none, 0, false⟩,
 ⟨(some 15), .load1 (.tmp 14), none, 0, false⟩,
 ⟨(some 7), .move (.tmp 15), none, 0, false⟩])
 (.region [⟨(some 16), .move (.tmp 5), none, 0, false⟩,
 ⟨(some 17), .move (.tmp 7), none, 0, false⟩,
 ⟨(some 18), .call (.func 269) [(.tmp 16), (.tmp 17)], none, 0, false⟩,
 ⟨(some 5), .move (.tmp 18), none, 0, false⟩])))
 (.region [⟨(some 19), .bin .add (.tmp 12) (.const (.int .i64 1)), none, 0, false⟩,
 ⟨(some 12), .move (.tmp 19), none, 0, false⟩])))))))
 (.seq (.region [⟨(some 20), .move (.tmp 5), none, 0, false⟩,
 ⟨(some 21), .un .xor (.tmp 20), none, 0, false⟩,
 ⟨(some 4), .move (.tmp 21), none, 0, false⟩])
 .ret))))⟩

def L264 : LFunc := ⟨19, [],
 (.seq (.region [⟨(some 4), .load1 (.tmp 1), none, 0, false⟩,
 ⟨(some 5), .len false (.tmp 4), none, 0, false⟩,
 ⟨(some 6), .bin .sub (.tmp 5) (.const (.int .i64 1)), none, 0, false⟩,
 ⟨(some 3), .move (.tmp 6), none, 0, false⟩])
 (.block 0 (.loop (.seq (.seq (.region [⟨(some 7), .move (.tmp 3), none, 0, false⟩,
 ⟨(some 8), .bin .geq (.tmp 7) (.const (.int .i64 0)), none, 0, false⟩])
 (.cond (.tmp 8) .skip
 (.exit 0)))
 (.seq (.block 1 (.seq (.region [⟨(some 11), .move (.tmp 0), none, 0, false⟩,
 ⟨(some 12), .move (.tmp 3), none, 0, false⟩,
 ⟨(some 13), .load1 (.tmp 1), none, 0, false⟩,
 ⟨(some 14), .move (.tmp 3), none, 0, false⟩,
 ⟨(some 15), .indexAddr 1 (.tmp 13) (.tmp 14), none, 0, false⟩,
 ⟨(some 16), .load1 (.tmp 15), none, 0, false⟩,
 ⟨(some 17), .call (.tmp 11) [(.tmp 12), (.tmp 16)], none, 0, false⟩,
 ⟨(some 18), .un .not (.tmp 17), none, 0, false⟩])
 (.cond (.tmp 18) .ret
 .skip)))
 (.region [⟨(some 9), .move (.tmp 3), none, 0, false⟩,
 ⟨(some 10), .bin .sub (.tmp 9) (.const (.int .i64 1)), none, 0, false⟩,
 ⟨(some 3), .move (.tmp 10), none, 0, false⟩]))))))⟩

def L265 : LFunc := ⟨28, [.tmp 8, .tmp 9],
 (.seq (.region [⟨(some 8), .move (.const (.int .i64 0)), none, 0, false⟩,
 ⟨(some 9), .move (.const (.int .i64 0)), none, 0, false⟩])
 (.seq (.seq (.draw [⟨(some 10), .move (.tmp 0), none, 0, false⟩,
 ⟨(some 11), .move (.tmp 2), none, 0, false⟩,
 ⟨(some 12), .indexAddr 1 (.tmp 10) (.tmp 11), none, 0, false⟩,
 ⟨(some 13), .load1 (.tmp 12), none, 0, false⟩,
 ⟨(some 14), .move (.tmp 0), none, 0, false⟩,
 ⟨(some 15), .move (.tmp 1), none, 0, false⟩,
 ⟨(some 16), .indexAddr 1 (.tmp 14) (.tmp 15), none, 0, false⟩,
 ⟨(some 17), .load1 (.tmp 16), none, 0, false⟩,
 ⟨(some 18), .call (.func 216) [(.tmp 13), (.tmp 17)], none, 0, true⟩])
 (.cond (.tmp 18) (.seq (.region [⟨(some 19), .move (.tmp 3), none, 0, false⟩,
 ⟨(some 20), .nilCheck (.tmp 19), none, 0, false⟩,
 ⟨(some 21), .load1 (.tmp 20), none, 0, false⟩,
 ⟨(some 22), .bin .add (.tmp 21) (.const (.int .i64 1)), none, 0, false⟩,
 ⟨(some 23), .nilCheck (.tmp 19), none, 0, false⟩,
 ⟨none, .store 1 (.tmp 23) (.tmp 22), none, 0, false⟩])
 (.seq (.region [⟨(some 24), .move (.tmp 2), none, 0, false⟩,
 ⟨(some 25), .move (.tmp 1), none, 0, false⟩,
 ⟨(some 8), .move (.tmp 24), none, 0, false⟩,
 ⟨(some 9), .move (.tmp 25), none, 0, false⟩])
 .ret))
 .skip))
 (.seq (.region [⟨(some 26), .move (.tmp 1), none, 0, false⟩,
 ⟨(some 27), .move (.tmp 2), none, 0, false⟩,
 ⟨(some 8), .move (.tmp 26), none, 0, false⟩,
 ⟨(some 9), .move (.tmp 27), none, 0, false⟩])
 .ret)))⟩

def L266 : LFunc := ⟨82, [],
 (.seq (.region [⟨(some 12), .move (.tmp 1), none, 0, false⟩,
 ⟨(some 10), .move (.tmp 12), none, 0, false⟩])
 (.block 0 (.loop (.block 1 (.seq (.region [⟨(some 13), .move (.tmp 10), none, 0, false⟩,
 ⟨(some 14), .bin .mul (.const (.int .i64 2)) (.tmp 13), none, 0, false⟩,
 ⟨(some 15), .bin .add (.tmp 14) (.const (.int .i64 1)), none, 0, false⟩,
 ⟨(some 11), .move (.tmp 15), none, 0, false⟩])
 (.seq (.seq (.region [⟨(some 16), .move (.tmp 11), none, 0, false⟩,
 ⟨(some 17), .move (.tmp 2), none, 0, false⟩,
 ⟨(some 18), .bin .geq (.tmp 16) (.tmp 17), none, 0, false⟩])
 (.cond (.tmp 18) (.exit 0)
 .skip))
 (.seq (.seq (.draw [⟨(some 19), .move (.tmp 11), none, 0, false⟩,
 ⟨(some 20), .bin .add (.tmp 19) (.const (.int .i64 1)), none, 0, false⟩,
 ⟨(some 21), .move (.tmp 2), none, 0, false⟩,
 ⟨(some 22), .bin .lss (.tmp 20) (.tmp 21), none, 0, false⟩,
 ⟨(some 23), .move (.tmp 22), none, 0, false⟩,
 ⟨(some 24), .move (.tmp 4), (some (23, true)), 0, false⟩,
 ⟨(some 25), .move (.tmp 0), (some (23, true)), 0, false⟩,
 ⟨(some 26), .move (.tmp 3), (some (23, true)), 0, false⟩,
 ⟨(some 27), .move (.tmp 11), (some (23, true)), 0, false⟩,
 ⟨(some 28), .bin .add (.tmp 26) (.tmp 27), (some (23, true)), 0, false⟩,
 ⟨(some 29), .indexAddr 14 (.tmp 25) (.tmp 28), (some (23, true)), 0, false⟩,
 ⟨(some 30), .loadN 14 (.tmp 29), (some (23, true)), 0, false⟩,
 ⟨(some 31), .move (.tmp 0), (some (23, true)), 0, false⟩,
 ⟨(some 32), .move (.tmp 3), (some (23, true)), 0, false⟩,
 ⟨(some 33), .move (.tmp 11), (some (23, true)), 0, false⟩,
 ⟨(some 34), .bin .add (.tmp 32) (.tmp 33), (some (23, true)), 0, false⟩,
 ⟨(some 35), .bin .add (.tmp 34) (.const (.int .i64 1)), (some (23, true)), 0, false⟩,
 ⟨(some 36), .indexAddr 14 (.tmp 31) (.tmp 35), (some (23, true)), 0, false⟩,
 ⟨(some 37), .loadN 14 (.tmp 36), (some (23, true)), 0, false⟩,
 ⟨(some 38), .call (.tmp 24) [(.tmp 30), (.tmp 37)], (some (23, true)), 0, true⟩,
 ⟨(some 39), .bin .lss (.tmp 38) (.const (.int .i64 0)), (some (23, true)), 1, false⟩,
 ⟨(some 40), .pick (.tmp 23) (.tmp 39) (.const (.bool false)), none, 1, false⟩])
 (.cond (.tmp 40) (.region [⟨(some 41), .move (.tmp 11), none, 0, false⟩,
 ⟨(some 42), .bin .add (.tmp 41) (.const (.int .i64 1)), none, 0, false⟩,
 ⟨(some 11), .move (.tmp 42), none, 0, false⟩])
 .skip))
 (.seq (.seq (.draw [⟨(some 43), .move (.tmp 4), none, 0, false⟩,
 ⟨(some 44), .move (.tmp 0), none, 0, false⟩,
 ⟨(some 45), .move (.tmp 3), none, 0, false⟩,
 ⟨(some 46), .move (.tmp 10), none, 0, false⟩,
 ⟨(some 47), .bin .add (.tmp 45) (.tmp 46), none, 0, false⟩,
 ⟨(some 48), .indexAddr 14 (.tmp 44) (.tmp 47), none, 0, false⟩,
 ⟨(some 49), .loadN 14 (.tmp 48), none, 0, false⟩,
 ⟨(some 50), .move (.tmp 0), none, 0, false⟩,
 ⟨(some 51), .move (.tmp 3), none, 0, false⟩,
 ⟨(some 52), .move (.tmp 11), none, 0, false⟩,
 ⟨(some 53), .bin .add (.tmp 51) (.tmp 52), none, 0, false⟩,
 ⟨(some 54), .indexAddr 14 (.tmp 50) (.tmp 53), none, 0, false⟩,
 ⟨(some 55), .loadN 14 (.tmp 54), none, 0, false⟩,
 ⟨(some 56), .call (.tmp 43) [(.tmp 49), (.tmp 55)], none, 0, true⟩,
 ⟨(some 57), .bin .lss (.tmp 56) (.const (.int .i64 0)), none, 1, false⟩,
 ⟨(some 58), .un .not (.tmp 57), none, 1, false⟩])
 (.cond (.tmp 58) .ret
 .skip))
 (.seq (.draw [⟨(some 59), .move (.tmp 0), none, 0, false⟩,
 ⟨(some 60), .move (.tmp 3), none, 0, false⟩,
 ⟨(some 61), .move (.tmp 10), none, 0, false⟩,
 ⟨(some 62), .bin .add (.tmp 60) (.tmp 61), none, 0, false⟩,
 ⟨(some 67), .move (.tmp 0), none, 0, false⟩,
 ⟨(some 68), .move (.tmp 3), none, 0, false⟩,
 ⟨(some 69), .move (.tmp 11), none, 0, false⟩,
 ⟨(some 70), .bin .add (.tmp 68) (.tmp 69), none, 0, false⟩,
 ⟨(some 71), .indexAddr 14 (.tmp 67) (.tmp 70), none, 0, false⟩,
 ⟨(some 72), .loadN 14 (.tmp 71), none, 0, false⟩,
 ⟨(some 73), .move (.tmp 0), none, 0, false⟩,
 ⟨(some 74), .move (.tmp 3), none, 0, false⟩,
 ⟨(some 75), .move (.tmp 10), none, 0, false⟩,
 ⟨(some 76), .bin .add (.tmp 74) (.tmp 75), none, 0, false⟩,
 ⟨(some 77), .indexAddr 14 (.tmp 73) (.tmp 76), none, 0, false⟩,
 ⟨(some 78), .loadN 14 (.tmp 77), none, 0, false⟩,
 ⟨(some 79), .indexAddr 14 (.tmp 59) (.tmp 62), none, 0, false⟩,
 ⟨none, .store 14 (.tmp 79) (.tmp 72), none, 0, true⟩,
 ⟨(some 63), .move (.tmp 0), none, 0, false⟩,
 ⟨(some 64), .move (.tmp 3), none, 0, false⟩,
 ⟨(some 65), .move (.tmp 11), none, 0, false⟩,
 ⟨(some 66), .bin .add (.tmp 64) (.tmp 65), none, 0, false⟩,
 ⟨(some 80), .indexAddr 14 (.tmp 63) (.tmp 66), none, 1, false⟩,
 ⟨none, .store 14 (.tmp 80) (.tmp 78), none, 1, true⟩])
 (.region [⟨(some 81), .move (.tmp 11), none, 0, false⟩,
 ⟨(some 10), .move (.tmp 81), none, 0, false⟩]))))))))))⟩

def L267 : LFunc := ⟨18, [.tmp 8],
 (.seq (.region [⟨(some 8), .move (.const (.int .i64 0)), none, 0, false⟩])
 (.seq (.region [⟨(some 9), .move (.tmp 0), none, 0, false⟩,
 ⟨(some 10), .move (.tmp 1), none, 0, false⟩,
 ⟨(some 11), .bin .sub (.tmp 10) (.const (.int .i64 1)), none, 0, false⟩,
 ⟨(some 12), .move (.tmp 1), none, 0, false⟩,
 ⟨(some 13), .move (.tmp 1), none, 0, false⟩,
 ⟨(some 14), .bin .add (.tmp 13) (.const (.int .i64 1)), none, 0, false⟩,
 ⟨(some 15), .move (.tmp 2), none, 0, false⟩,
 ⟨(some 16), .move (.tmp 3), none, 0, false⟩,
 ⟨(some 17), .call (.func 268) [(.tmp 9), (.tmp 11), (.tmp 12), (.tmp 14), (.tmp 15), (.tmp 16)], none, 0, false⟩,
 ⟨(some 8), .move (.tmp 17), none, 0, false⟩])
 .ret))⟩

def L268 : LFunc := ⟨41, [.tmp 12],
 (.seq (.region [⟨(some 12), .move (.const (.int .i64 0)), none, 0, false⟩])
 (.seq (.region [⟨(some 14), .move (.tmp 0), none, 0, false⟩,
 ⟨(some 15), .move (.tmp 1), none, 0, false⟩,
 ⟨(some 16), .move (.tmp 2), none, 0, false⟩,
 ⟨(some 17), .move (.tmp 4), none, 0, false⟩,
 ⟨(some 18), .move (.tmp 5), none, 0, false⟩,
 ⟨(some 19), .call (.func 270) [(.tmp 14), (.tmp 15), (.tmp 16), (.tmp 17), (.tmp 18)], none, 0, false⟩,
 ⟨(some 13), .move (.tmp 19), none, 0, false⟩,
 ⟨(some 20), .extract (.tmp 13) 0, none, 0, false⟩,
 ⟨(some 21), .extract (.tmp 13) 1, none, 0, false⟩,
 ⟨(some 1), .move (.tmp 20), none, 0, false⟩,
 ⟨(some 2), .move (.tmp 21), none, 0, false⟩])
 (.seq (.region [⟨(some 23), .move (.tmp 0), none, 0, false⟩,
 ⟨(some 24), .move (.tmp 2), none, 0, false⟩,
 ⟨(some 25), .move (.tmp 3), none, 0, false⟩,
 ⟨(some 26), .move (.tmp 4), none, 0, false⟩,
 ⟨(some 27), .move (.tmp 5), none, 0, false⟩,
 ⟨(some 28), .call (.func 270) [(.tmp 23), (.tmp 24), (.tmp 25), (.tmp 26), (.tmp 27)], none, 0, false⟩,
 ⟨(some 22), .move (.tmp 28), none, 0, false⟩,
 ⟨(some 29), .extract (.tmp 22) 0, none, 0, false⟩,
 ⟨(some 30), .extract (.tmp 22) 1, none, 0, false⟩,
 ⟨(some 2), .move (.tmp 29), none, 0, false⟩,
 ⟨(some 3), .move (.tmp 30), none, 0, false⟩])
 (.seq (.region [⟨(some 32), .move (.tmp 0), none, 0, false⟩,
 ⟨(some 33), .move (.tmp 1), none, 0, false⟩,
 ⟨(some 34), .move (.tmp 2), none, 0, false⟩,
 ⟨(some 35), .move (.tmp 4), none, 0, false⟩,
 ⟨(some 36), .move (.tmp 5), none, 0, false⟩,
 ⟨(some 37), .call (.func 270) [(.tmp 32), (.tmp 33), (.tmp 34), (.tmp 35), (.tmp 36)], none, 0, false⟩,
 ⟨(some 31), .move (.tmp 37), none, 0, false⟩,
 ⟨(some 38), .extract (.tmp 31) 0, none, 0, false⟩,
 ⟨(some 39), .extract (.tmp 31) 1, none, 0, false⟩,
 ⟨(some 1), .move (.tmp 38), none, 0, false⟩,
 ⟨(some 2), .move (.tmp 39), none, 0, false⟩])
 (.seq (.region [⟨(some 40), .move (.tmp 2), none, 0, false⟩,
 ⟨(some 12), .move (.tmp 40), none, 0, false⟩])
 .ret)))))⟩

def L269 : LFunc := ⟨24, [.tmp 4],
 (.seq (.region [⟨(some 4), .move (.const (.int .u32 0)), none, 0, false⟩])
 (.scope (.seq (.region [⟨(some 7), .move (.tmp 0), none, 0, false⟩,
 ⟨(some 8), .move (.tmp 1), none, 0, false⟩,
 ⟨(some 9), .conv (.int .u32) (.tmp 8), none, 0, false⟩,
 ⟨(some 10), .bin .shl (.tmp 9) (.const (.int .u64 24)), none, 0, false⟩,
 ⟨(some 11), .bin .xor (.tmp 7) (.tmp 10), none, 0, false⟩,
 ⟨(some 0), .move (.tmp 11), none, 0, false⟩])
 (.seq (.region [⟨(some 5), .move (.const (.int .i64 0)), none, 0, false⟩])
 (.seq .skip
 (.seq (.region [⟨(some 12), .move (.tmp 0), none, 0, false⟩,
 ⟨(some 13), .bin .shr (.tmp 12) (.const (.int .u64 31)), none, 0, false⟩,
 ⟨(some 6), .move (.tmp 13), none, 0, false⟩])
 (.seq (.region [⟨(some 14), .move (.tmp 0), none, 0, false⟩,
 ⟨(some 15), .bin .shl (.tmp 14) (.const (.int .u64 1)), none, 0, false⟩,
 ⟨(some 16), .move (.tmp 6), none, 0, false⟩,
 ⟨(some 17), .bin .mul (.const (.int .u32 79764919)) (.tmp 16), none, 0, false⟩,
 ⟨(some 18), .bin .xor (.tmp 15) (.tmp 17), none, 0, false⟩,
 ⟨(some 0), .move (.tmp 18), none, 0, false⟩])
 (.seq (.seq (.region [⟨(some 19), .move (.tmp 5), none, 0, false⟩,
 ⟨(some 20), .bin .add (.tmp 19) (.const (.int .i64 1)), none, 0, false⟩,
 ⟨(some 5), .move (.tmp 20), none, 0, false⟩])
 (.seq (.region [⟨(some 21), .move (.tmp 5), none, 0, false⟩,
 ⟨(some 22), .bin .lss (.tmp 21) (.const (.int .i64 8)), none, 0, false⟩])
 (.cond (.tmp 22) (.goto 0)
 .skip)))
 (.seq (.region [⟨(some 23), .move (.tmp 0), none, 0, false⟩,
 ⟨(some 4), .move (.tmp 23), none, 0, false⟩])
 .ret))))))) 0 (.seq .skip
 (.seq (.region [⟨(some 12), .move (.tmp 0), none, 0, false⟩,
 ⟨(some 13), .bin .shr (.tmp 12) (.const (.int .u64 31)), none, 0, false⟩,
 ⟨(some 6), .move (.tmp 13), none, 0, false⟩])
 (.seq (.region [⟨(some 14), .move (.tmp 0), none, 0, false⟩,
 ⟨(some 15), .bin .shl (.tmp 14) (.const (.int .u64 1)), none, 0, false⟩,
 ⟨(some 16), .move (.tmp 6), none, 0, false⟩,
 ⟨(some 17), .bin .mul (.const (.int .u32 79764919)) (.tmp 16), none, 0, false⟩,
 ⟨(some 18), .bin .xor (.tmp 15) (.tmp 17), none, 0, false⟩,
 ⟨(some 0), .move (.tmp 18), none, 0, false⟩])
 (.seq (.seq (.region [⟨(some 19), .move (.tmp 5), none, 0, false⟩,
 ⟨(some 20), .bin .add (.tmp 19) (.const (.int .i64 1)), none, 0, false⟩,
 ⟨(some 5), .move (.tmp 20), none, 0, false⟩])
 (.seq (.region [⟨(some 21), .move (.tmp 5), none, 0, false⟩,
 ⟨(some 22), .bin .lss (.tmp 21) (.const (.int .i64 8)), none, 0, false⟩])
 (.cond (.tmp 22) (.goto 0)
 .skip)))
 (.seq (.region [⟨(some 23), .move (.tmp 0), none, 0, false⟩,
 ⟨(some 4), .move (.tmp 23), none, 0, false⟩])
 .ret)))))))⟩

def L270 : LFunc := ⟨32, [.tmp 10, .tmp 11],
 (.seq (.region [⟨(some 10), .move (.const (.int .i64 0)), none, 0, false⟩,
 ⟨(some 11), .move (.const (.int .i64 0)), none, 0, false⟩])
 (.seq (.seq (.draw [⟨(some 12), .move (.tmp 4), none, 0, false⟩,
 ⟨(some 13), .move (.tmp 0), none, 0, false⟩,
 ⟨(some 14), .move (.tmp 2), none, 0, false⟩,
 ⟨(some 15), .indexAddr 14 (.tmp 13) (.tmp 14), none, 0, false⟩,
 ⟨(some 16), .loadN 14 (.tmp 15), none, 0, false⟩,
 ⟨(some 17), .move (.tmp 0), none, 0, false⟩,
 ⟨(some 18), .move (.tmp 1), none, 0, false⟩,
 ⟨(some 19), .indexAddr 14 (.tmp 17) (.tmp 18), none, 0, false⟩,
 ⟨(some 20), .loadN 14 (.tmp 19), none, 0, false⟩,
 ⟨(some 21), .call (.tmp 12) [(.tmp 16), (.tmp 20)], none, 0, true⟩,
 ⟨(some 22), .bin .lss (.tmp 21) (.const (.int .i64 0)), none, 1, false⟩])
 (.cond (.tmp 22) (.seq (.region [⟨(some 23), .move (.tmp 3), none, 0, false⟩,
 ⟨(some 24), .nilCheck (.tmp 23), none, 0, false⟩,
 ⟨(some 25), .load1 (.tmp 24), none, 0, false⟩,
 ⟨(some 26), .bin .add (.tmp 25) (.const (.int .i64 1)), none, 0, false⟩,
 ⟨(some 27), .nilCheck (.tmp 23), none, 0, false⟩,
 ⟨none, .store 1 (.tmp 27) (.tmp 26), none, 0, false⟩])
 (.seq (.region [⟨(some 28), .move (.tmp 2), none, 0, false⟩,
 ⟨(some 29), .move (.tmp 1), none, 0, false⟩,
 ⟨(some 10), .move (.tmp 28), none, 0, false⟩,
 ⟨(some 11), .move (.tmp 29), none, 0, false⟩])
 .ret))
 .skip))
 (.seq (.region [⟨(some 30), .move (.tmp 1), none, 0, false⟩,
 ⟨(some 31), .move (.tmp 2), none, 0, false⟩,
 ⟨(some 10), .move (.tmp 30), none, 0, false⟩,
 ⟨(some 11), .move (.tmp 31), none, 0, false⟩])
 .ret)))⟩

end Go.Proofs.YtomdpjbnddfkpaaGreat.LN
