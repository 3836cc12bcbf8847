/- The functions in the small language, part 1. Conditions: none. -/
import Derived.Test.YtibenpfnlajakaaDoorFwf
import Derived.Test.YtibenpfnlajakaaDoorProg
set_option linter.unusedVariables false
set_option linter.unusedSimpArgs false
namespace Go.Proofs.Tz
open Go Go.Abs Go.Proofs
def i3 : IFun := ⟨93, .seq (.reg false [⟨some 2, none, .box 25 (.tmp 0), []⟩,
 ⟨some 3, none, .box 26 (.tmp 1), []⟩,
 ⟨some 4, none, .mv (.cst (.d (.bool false))), []⟩])
 (.seq (.reg false [⟨some 14, none, .load true 10 (.tmp 2), []⟩,
 ⟨some 15, none, .call 16 [.tmp 14], []⟩,
 ⟨some 13, none, .mv (.tmp 15), []⟩,
 ⟨some 16, none, .ext (.tmp 13) 0, []⟩,
 ⟨some 17, none, .ext (.tmp 13) 1, []⟩,
 ⟨some 5, none, .mv (.tmp 16), []⟩,
 ⟨some 6, none, .mv (.tmp 17), []⟩])
 (.seq (.reg false [⟨some 19, none, .load true 10 (.tmp 2), []⟩,
 ⟨some 20, none, .call 17 [.tmp 19], []⟩,
 ⟨some 18, none, .mv (.tmp 20), []⟩,
 ⟨some 21, none, .ext (.tmp 18) 0, []⟩,
 ⟨some 22, none, .ext (.tmp 18) 1, []⟩,
 ⟨some 7, none, .mv (.tmp 21), []⟩,
 ⟨some 8, none, .mv (.tmp 22), []⟩])
 (.seq (.seq (.reg true [⟨some 23, none, .mv (.tmp 5), []⟩,
 ⟨some 24, none, .mv (.tmp 7), []⟩,
 ⟨some 25, none, .beq true (.tmp 23) (.tmp 24), [0, 1]⟩,
 ⟨some 26, none, .mv (.tmp 25), [2]⟩,
 ⟨some 27, some (26, false), .mv (.tmp 6), [3]⟩,
 ⟨some 28, some (26, false), .mv (.tmp 8), [3]⟩,
 ⟨some 29, some (26, false), .bin .neq (.tmp 27) (.tmp 28), [4, 5, 3]⟩,
 ⟨some 30, none, .pick (.tmp 26) (.cst (.d (.bool true))) (.tmp 29), [3, 6]⟩,
 ⟨some 31, none, .mv (.tmp 30), [7, 3]⟩,
 ⟨some 32, some (31, false), .load true 10 (.tmp 2), [8]⟩,
 ⟨some 33, some (31, false), .call 18 [.tmp 32], [9, 8, 8]⟩,
 ⟨some 34, some (31, false), .load true 10 (.tmp 2), [8]⟩,
 ⟨some 35, some (31, false), .call 19 [.tmp 34], [11, 10, 8]⟩,
 ⟨some 36, some (31, false), .bin .neq (.tmp 33) (.tmp 35), [10, 12, 8]⟩,
 ⟨some 37, none, .pick (.tmp 31) (.cst (.d (.bool true))) (.tmp 36), [8, 13]⟩])
 (.cond (.tmp 37) (.seq (.reg false [⟨some 4, none, .mv (.cst (.d (.bool false))), []⟩])
 (.ret)) (.skip)))
 (.seq (.reg false [⟨some 39, none, .load true 10 (.tmp 2), []⟩,
 ⟨some 40, none, .iaA 2 1 (.tmp 3) (.cst (.d (.int .i64 0))), []⟩,
 ⟨some 41, none, .load false 1 (.tmp 40), []⟩,
 ⟨some 42, none, .iaA 2 1 (.tmp 3) (.cst (.d (.int .i64 1))), []⟩,
 ⟨some 43, none, .load false 1 (.tmp 42), []⟩,
 ⟨some 44, none, .call 20 [.tmp 39, .tmp 41, .tmp 43], []⟩,
 ⟨some 38, none, .mv (.tmp 44), []⟩,
 ⟨some 45, none, .ext (.tmp 38) 0, []⟩,
 ⟨some 46, none, .ext (.tmp 38) 1, []⟩,
 ⟨some 9, none, .mv (.tmp 45), []⟩,
 ⟨some 6, none, .mv (.tmp 46), []⟩])
 (.seq (.reg false [⟨some 48, none, .load true 10 (.tmp 2), []⟩,
 ⟨some 49, none, .iaA 2 1 (.tmp 3) (.cst (.d (.int .i64 0))), []⟩,
 ⟨some 50, none, .load false 1 (.tmp 49), []⟩,
 ⟨some 51, none, .iaA 2 1 (.tmp 3) (.cst (.d (.int .i64 1))), []⟩,
 ⟨some 52, none, .load false 1 (.tmp 51), []⟩,
 ⟨some 53, none, .call 21 [.tmp 48, .tmp 50, .tmp 52], []⟩,
 ⟨some 47, none, .mv (.tmp 53), []⟩,
 ⟨some 54, none, .ext (.tmp 47) 0, []⟩,
 ⟨some 55, none, .ext (.tmp 47) 1, []⟩,
 ⟨some 10, none, .mv (.tmp 54), []⟩,
 ⟨some 8, none, .mv (.tmp 55), []⟩])
 (.seq (.seq (.reg false [⟨some 56, none, .mv (.tmp 9), []⟩,
 ⟨some 57, none, .mv (.tmp 10), []⟩,
 ⟨some 58, none, .bin .neq (.tmp 56) (.tmp 57), []⟩,
 ⟨some 59, none, .mv (.tmp 58), []⟩,
 ⟨some 60, some (59, false), .mv (.tmp 6), []⟩,
 ⟨some 61, some (59, false), .mv (.tmp 8), []⟩,
 ⟨some 62, some (59, false), .bin .neq (.tmp 60) (.tmp 61), []⟩,
 ⟨some 63, none, .pick (.tmp 59) (.cst (.d (.bool true))) (.tmp 62), []⟩])
 (.cond (.tmp 63) (.seq (.reg false [⟨some 4, none, .mv (.cst (.d (.bool false))), []⟩])
 (.ret)) (.skip)))
 (.seq (.reg false [⟨some 65, none, .load true 10 (.tmp 2), []⟩,
 ⟨some 66, none, .iaA 2 1 (.tmp 3) (.cst (.d (.int .i64 0))), []⟩,
 ⟨some 67, none, .load false 1 (.tmp 66), []⟩,
 ⟨some 68, none, .iaA 2 1 (.tmp 3) (.cst (.d (.int .i64 1))), []⟩,
 ⟨some 69, none, .load false 1 (.tmp 68), []⟩,
 ⟨some 70, none, .call 22 [.tmp 65, .tmp 67, .tmp 69], []⟩,
 ⟨some 64, none, .mv (.tmp 70), []⟩,
 ⟨some 71, none, .ext (.tmp 64) 0, []⟩,
 ⟨some 72, none, .ext (.tmp 64) 1, []⟩,
 ⟨some 11, none, .alloc 34 [.int .i64 0, .int .i64 0], []⟩,
 ⟨none, none, .store 2 (.tmp 11) (.tmp 71), []⟩,
 ⟨some 6, none, .mv (.tmp 72), []⟩])
 (.seq (.reg false [⟨some 74, none, .load true 10 (.tmp 2), []⟩,
 ⟨some 75, none, .iaA 2 1 (.tmp 3) (.cst (.d (.int .i64 0))), []⟩,
 ⟨some 76, none, .load false 1 (.tmp 75), []⟩,
 ⟨some 77, none, .iaA 2 1 (.tmp 3) (.cst (.d (.int .i64 1))), []⟩,
 ⟨some 78, none, .load false 1 (.tmp 77), []⟩,
 ⟨some 79, none, .call 23 [.tmp 74, .tmp 76, .tmp 78], []⟩,
 ⟨some 73, none, .mv (.tmp 79), []⟩,
 ⟨some 80, none, .ext (.tmp 73) 0, []⟩,
 ⟨some 81, none, .ext (.tmp 73) 1, []⟩,
 ⟨some 12, none, .alloc 34 [.int .i64 0, .int .i64 0], []⟩,
 ⟨none, none, .store 2 (.tmp 12) (.tmp 80), []⟩,
 ⟨some 8, none, .mv (.tmp 81), []⟩])
 (.seq (.reg false [⟨some 82, none, .load true 2 (.tmp 11), []⟩,
 ⟨some 83, none, .load true 2 (.tmp 12), []⟩,
 ⟨some 84, none, .aeq false 34 (.tmp 82) (.tmp 83), []⟩,
 ⟨some 85, none, .mv (.tmp 84), []⟩,
 ⟨some 86, some (85, true), .mv (.tmp 6), []⟩,
 ⟨some 87, some (85, true), .mv (.tmp 8), []⟩,
 ⟨some 88, some (85, true), .bin .eql (.tmp 86) (.tmp 87), []⟩,
 ⟨some 89, none, .pick (.tmp 85) (.tmp 88) (.cst (.d (.bool false))), []⟩,
 ⟨some 90, none, .mv (.tmp 89), []⟩,
 ⟨some 91, some (90, true), .call 24 [], []⟩,
 ⟨some 92, none, .pick (.tmp 90) (.tmp 91) (.cst (.d (.bool false))), []⟩,
 ⟨some 4, none, .mv (.tmp 92), []⟩])
 (.ret)))))))))),
 [.tmp 4]⟩
theorem c3 : trF Tryd.prog Tryd.f3 = some i3 := by kernel_rfl
def i16 : IFun := ⟨15, .seq (.reg false [⟨some 1, none, .box 25 (.tmp 0), []⟩,
 ⟨some 2, none, .mv (.cst (.d (.bool false))), []⟩,
 ⟨some 3, none, .mv (.cst (.d (.int .i64 0))), []⟩])
 (.seq (.seq (.reg false [⟨some 5, none, .load true 10 (.tmp 1), []⟩,
 ⟨some 6, none, .call 18 [.tmp 5], []⟩,
 ⟨some 4, none, .mv (.tmp 6), []⟩])
 (.seq (.reg false [⟨some 7, none, .mv (.tmp 4), []⟩,
 ⟨some 8, none, .bin .neq (.tmp 7) (.cst (.d (.int .i64 0))), []⟩])
 (.cond (.tmp 8) (.seq (.reg false [⟨some 9, none, .mv (.tmp 4), []⟩,
 ⟨some 2, none, .mv (.cst (.d (.bool false))), []⟩,
 ⟨some 3, none, .mv (.tmp 9), []⟩])
 (.ret)) (.skip))))
 (.seq (.reg false [⟨some 10, none, .load true 10 (.tmp 1), []⟩,
 ⟨some 11, none, .call 61 [.tmp 10], []⟩,
 ⟨some 12, none, .fld false 10 1 (.tmp 11), []⟩,
 ⟨some 13, none, .len (.tmp 12), []⟩,
 ⟨some 14, none, .bin .gtr (.tmp 13) (.cst (.d (.int .i64 0))), []⟩,
 ⟨some 2, none, .mv (.tmp 14), []⟩,
 ⟨some 3, none, .mv (.cst (.d (.int .i64 0))), []⟩])
 (.ret))),
 [.tmp 2, .tmp 3]⟩
theorem c16 : trF Tryd.prog Tryd.f16 = some i16 := by kernel_rfl
def i17 : IFun := ⟨14, .seq (.reg false [⟨some 1, none, .box 25 (.tmp 0), []⟩,
 ⟨some 2, none, .mv (.cst (.d (.bool false))), []⟩,
 ⟨some 3, none, .mv (.cst (.d (.int .i64 0))), []⟩])
 (.seq (.seq (.reg false [⟨some 5, none, .load true 10 (.tmp 1), []⟩,
 ⟨some 6, none, .call 19 [.tmp 5], []⟩,
 ⟨some 4, none, .mv (.tmp 6), []⟩])
 (.seq (.reg false [⟨some 7, none, .mv (.tmp 4), []⟩,
 ⟨some 8, none, .bin .neq (.tmp 7) (.cst (.d (.int .i64 0))), []⟩])
 (.cond (.tmp 8) (.seq (.reg false [⟨some 9, none, .mv (.tmp 4), []⟩,
 ⟨some 2, none, .mv (.cst (.d (.bool false))), []⟩,
 ⟨some 3, none, .mv (.tmp 9), []⟩])
 (.ret)) (.skip))))
 (.seq (.reg false [⟨some 10, none, .load true 10 (.tmp 1), []⟩,
 ⟨some 11, none, .call 62 [.tmp 10], []⟩,
 ⟨some 12, none, .len (.tmp 11), []⟩,
 ⟨some 13, none, .bin .gtr (.tmp 12) (.cst (.d (.int .i64 0))), []⟩,
 ⟨some 2, none, .mv (.tmp 13), []⟩,
 ⟨some 3, none, .mv (.cst (.d (.int .i64 0))), []⟩])
 (.ret))),
 [.tmp 2, .tmp 3]⟩
theorem c17 : trF Tryd.prog Tryd.f17 = some i17 := by kernel_rfl
def i18 : IFun := ⟨141, .seq (.reg false [⟨some 1, none, .box 25 (.tmp 0), []⟩,
 ⟨some 2, none, .mv (.cst (.d (.int .i64 0))), []⟩])
 (.seq (.reg false [⟨some 9, none, .faddr 0 (.tmp 1), []⟩,
 ⟨some 10, none, .load false 1 (.tmp 9), []⟩,
 ⟨some 11, none, .call 63 [.tmp 10, .cst (.d (.int .i64 0)), .cst (.d (.int .i64 1))], []⟩,
 ⟨some 12, none, .mv (.tmp 11), []⟩,
 ⟨some 13, some (12, true), .faddr 1 (.tmp 1), []⟩,
 ⟨some 14, some (12, true), .load false 1 (.tmp 13), []⟩,
 ⟨some 15, some (12, true), .call 63 [.tmp 14, .cst (.d (.int .i64 1)), .cst (.d (.int .i64 60))], []⟩,
 ⟨some 16, none, .pick (.tmp 12) (.tmp 15) (.cst (.d (.bool false))), []⟩,
 ⟨some 17, none, .mv (.tmp 16), []⟩,
 ⟨some 18, some (17, true), .faddr 2 (.tmp 1), []⟩,
 ⟨some 19, some (17, true), .load false 1 (.tmp 18), []⟩,
 ⟨some 20, some (17, true), .call 63 [.tmp 19, .cst (.d (.int .i64 1)), .cst (.d (.int .i64 60))], []⟩,
 ⟨some 21, none, .pick (.tmp 17) (.tmp 20) (.cst (.d (.bool false))), []⟩,
 ⟨some 3, none, .mv (.tmp 21), []⟩])
 (.seq (.seq (.reg false [⟨some 22, none, .faddr 0 (.tmp 1), []⟩,
 ⟨some 23, none, .load false 1 (.tmp 22), []⟩,
 ⟨some 24, none, .bin .eql (.tmp 23) (.cst (.d (.int .i64 1))), []⟩])
 (.cond (.tmp 24) (.reg false [⟨some 25, none, .mv (.tmp 3), []⟩,
 ⟨some 26, none, .mv (.tmp 25), []⟩,
 ⟨some 27, some (26, true), .faddr 3 (.tmp 1), []⟩,
 ⟨some 28, some (26, true), .load false 1 (.tmp 27), []⟩,
 ⟨some 29, some (26, true), .call 63 [.tmp 28, .cst (.d (.int .i64 1)), .cst (.d (.int .i64 120))], []⟩,
 ⟨some 30, none, .pick (.tmp 26) (.tmp 29) (.cst (.d (.bool false))), []⟩,
 ⟨some 3, none, .mv (.tmp 30), []⟩]) (.reg false [⟨some 31, none, .mv (.tmp 3), []⟩,
 ⟨some 32, none, .mv (.tmp 31), []⟩,
 ⟨some 33, some (32, true), .faddr 3 (.tmp 1), []⟩,
 ⟨some 34, some (32, true), .load false 1 (.tmp 33), []⟩,
 ⟨some 35, some (32, true), .bin .eql (.tmp 34) (.cst (.d (.int .i64 0))), []⟩,
 ⟨some 36, none, .pick (.tmp 32) (.tmp 35) (.cst (.d (.bool false))), []⟩,
 ⟨some 3, none, .mv (.tmp 36), []⟩])))
 (.seq (.reg false [⟨some 37, none, .mv (.tmp 3), []⟩,
 ⟨some 38, none, .mv (.tmp 37), []⟩,
 ⟨some 39, some (38, true), .faddr 4 (.tmp 1), []⟩,
 ⟨some 40, some (38, true), .load false 1 (.tmp 39), []⟩,
 ⟨some 41, some (38, true), .len (.tmp 40), []⟩,
 ⟨some 42, some (38, true), .call 63 [.tmp 41, .cst (.d (.int .i64 1)), .cst (.d (.int .i64 4))], []⟩,
 ⟨some 43, none, .pick (.tmp 38) (.tmp 42) (.cst (.d (.bool false))), []⟩,
 ⟨some 44, none, .mv (.tmp 43), []⟩,
 ⟨some 45, some (44, true), .faddr 5 (.tmp 1), []⟩,
 ⟨some 46, some (44, true), .load false 1 (.tmp 45), []⟩,
 ⟨some 47, some (44, true), .call 63 [.tmp 46, .cst (.d (.int .i64 (-60))), .cst (.d (.int .i64 60))], []⟩,
 ⟨some 48, none, .pick (.tmp 44) (.tmp 47) (.cst (.d (.bool false))), []⟩,
 ⟨some 49, none, .mv (.tmp 48), []⟩,
 ⟨some 50, some (49, true), .faddr 6 (.tmp 1), []⟩,
 ⟨some 51, some (49, true), .load false 1 (.tmp 50), []⟩,
 ⟨some 52, some (49, true), .call 63 [.tmp 51, .cst (.d (.int .i64 0)), .cst (.d (.int .i64 60))], []⟩,
 ⟨some 53, none, .pick (.tmp 49) (.tmp 52) (.cst (.d (.bool false))), []⟩,
 ⟨some 3, none, .mv (.tmp 53), []⟩])
 (.seq (.reg false [⟨some 54, none, .mv (.tmp 3), []⟩,
 ⟨some 55, none, .mv (.tmp 54), []⟩,
 ⟨some 56, some (55, true), .faddr 7 (.tmp 1), []⟩,
 ⟨some 57, some (55, true), .load false 1 (.tmp 56), []⟩,
 ⟨some 58, some (55, true), .call 63 [.tmp 57, .cst (.d (.int .i64 0)), .cst (.d (.int .i64 12))], []⟩,
 ⟨some 59, none, .pick (.tmp 55) (.tmp 58) (.cst (.d (.bool false))), []⟩,
 ⟨some 60, none, .mv (.tmp 59), []⟩,
 ⟨some 61, some (60, true), .faddr 8 (.tmp 1), []⟩,
 ⟨some 62, some (60, true), .load false 1 (.tmp 61), []⟩,
 ⟨some 63, some (60, true), .call 63 [.tmp 62, .cst (.d (.int .i64 1)), .cst (.d (.int .i64 60))], []⟩,
 ⟨some 64, none, .pick (.tmp 60) (.tmp 63) (.cst (.d (.bool false))), []⟩,
 ⟨some 65, none, .mv (.tmp 64), []⟩,
 ⟨some 66, some (65, true), .faddr 9 (.tmp 1), []⟩,
 ⟨some 67, some (65, true), .load false 1 (.tmp 66), []⟩,
 ⟨some 68, some (65, true), .len (.tmp 67), []⟩,
 ⟨some 69, some (65, true), .bin .leq (.tmp 68) (.cst (.d (.int .i64 5))), []⟩,
 ⟨some 70, none, .pick (.tmp 65) (.tmp 69) (.cst (.d (.bool false))), []⟩,
 ⟨some 3, none, .mv (.tmp 70), []⟩])
 (.seq (.seq (.reg false [⟨some 71, none, .faddr 4 (.tmp 1), []⟩,
 ⟨some 72, none, .load false 1 (.tmp 71), []⟩,
 ⟨some 73, none, .len (.tmp 72), []⟩,
 ⟨some 74, none, .mv (.cst (.d (.int .i64 0))), []⟩])
 (.block 0 (.loop (.seq (.reg false [⟨some 75, none, .bin .lss (.tmp 74) (.tmp 73), []⟩])
 (.seq (.cond (.tmp 75) (.skip) (.exit 0))
 (.seq (.block 1 (.seq (.reg false [⟨some 76, none, .iaS 4 (.tmp 72) (.tmp 74), []⟩,
 ⟨some 77, none, .load true 4 (.tmp 76), []⟩,
 ⟨some 5, none, .alloc 70 [.int .i64 0, .int .i64 0, .int .i64 0, .int .i64 0], []⟩,
 ⟨none, none, .store 4 (.tmp 5) (.tmp 77), []⟩])
 (.seq (.reg false [⟨some 78, none, .faddr 0 (.tmp 5), []⟩,
 ⟨some 79, none, .load true 2 (.tmp 78), []⟩,
 ⟨some 6, none, .alloc 42 [.int .i64 0, .int .i64 0], []⟩,
 ⟨none, none, .store 2 (.tmp 6) (.tmp 79), []⟩])
 (.seq (.reg false [⟨some 80, none, .mv (.tmp 3), []⟩,
 ⟨some 81, none, .mv (.tmp 80), []⟩,
 ⟨some 82, some (81, true), .faddr 0 (.tmp 6), []⟩,
 ⟨some 83, some (81, true), .load false 1 (.tmp 82), []⟩,
 ⟨some 84, some (81, true), .faddr 1 (.tmp 6), []⟩,
 ⟨some 85, some (81, true), .load false 1 (.tmp 84), []⟩,
 ⟨some 86, some (81, true), .call 63 [.tmp 83, .cst (.d (.int .i64 1)), .tmp 85], []⟩,
 ⟨some 87, none, .pick (.tmp 81) (.tmp 86) (.cst (.d (.bool false))), []⟩,
 ⟨some 88, none, .mv (.tmp 87), []⟩,
 ⟨some 89, some (88, true), .faddr 1 (.tmp 6), []⟩,
 ⟨some 90, some (88, true), .load false 1 (.tmp 89), []⟩,
 ⟨some 91, some (88, true), .bin .leq (.tmp 90) (.cst (.d (.int .i64 99))), []⟩,
 ⟨some 92, none, .pick (.tmp 88) (.tmp 91) (.cst (.d (.bool false))), []⟩,
 ⟨some 93, none, .mv (.tmp 92), []⟩,
 ⟨some 94, some (93, true), .faddr 1 (.tmp 6), []⟩,
 ⟨some 95, some (93, true), .load false 1 (.tmp 94), []⟩,
 ⟨some 96, some (93, true), .faddr 0 (.tmp 6), []⟩,
 ⟨some 97, some (93, true), .load false 1 (.tmp 96), []⟩,
 ⟨some 98, some (93, true), .bin .sub (.tmp 95) (.tmp 97), []⟩,
 ⟨some 99, some (93, true), .bin .leq (.tmp 98) (.cst (.d (.int .i64 4))), []⟩,
 ⟨some 100, none, .pick (.tmp 93) (.tmp 99) (.cst (.d (.bool false))), []⟩,
 ⟨some 3, none, .mv (.tmp 100), []⟩])
 (.reg false [⟨some 101, none, .mv (.tmp 3), []⟩,
 ⟨some 102, none, .mv (.tmp 101), []⟩,
 ⟨some 103, some (102, true), .faddr 2 (.tmp 5), []⟩,
 ⟨some 104, some (102, true), .load false 1 (.tmp 103), []⟩,
 ⟨some 105, some (102, true), .call 63 [.tmp 104, .cst (.d (.int .i64 (-60))), .cst (.d (.int .i64 60))], []⟩,
 ⟨some 106, none, .pick (.tmp 102) (.tmp 105) (.cst (.d (.bool false))), []⟩,
 ⟨some 107, none, .mv (.tmp 106), []⟩,
 ⟨some 108, some (107, true), .faddr 3 (.tmp 5), []⟩,
 ⟨some 109, some (107, true), .load false 1 (.tmp 108), []⟩,
 ⟨some 110, some (107, true), .call 63 [.tmp 109, .cst (.d (.int .i64 0)), .cst (.d (.int .i64 60))], []⟩,
 ⟨some 111, none, .pick (.tmp 107) (.tmp 110) (.cst (.d (.bool false))), []⟩,
 ⟨some 3, none, .mv (.tmp 111), []⟩])))))
 (.reg false [⟨some 112, none, .bin .add (.tmp 74) (.cst (.d (.int .i64 1))), []⟩,
 ⟨some 74, none, .mv (.tmp 112), []⟩])))))))
 (.seq (.seq (.reg false [⟨some 113, none, .faddr 9 (.tmp 1), []⟩,
 ⟨some 114, none, .load false 1 (.tmp 113), []⟩,
 ⟨some 115, none, .len (.tmp 114), []⟩,
 ⟨some 116, none, .mv (.cst (.d (.int .i64 0))), []⟩])
 (.block 2 (.loop (.seq (.reg false [⟨some 117, none, .bin .lss (.tmp 116) (.tmp 115), []⟩])
 (.seq (.cond (.tmp 117) (.skip) (.exit 2))
 (.seq (.block 3 (.seq (.reg false [⟨some 118, none, .iaS 3 (.tmp 114) (.tmp 116), []⟩,
 ⟨some 119, none, .load true 3 (.tmp 118), []⟩,
 ⟨some 8, none, .alloc 65 [.int .i64 0, .int .i64 0, .bool false], []⟩,
 ⟨none, none, .store 3 (.tmp 8) (.tmp 119), []⟩])
 (.reg false [⟨some 120, none, .mv (.tmp 3), []⟩,
 ⟨some 121, none, .mv (.tmp 120), []⟩,
 ⟨some 122, some (121, true), .faddr 0 (.tmp 8), []⟩,
 ⟨some 123, some (121, true), .load false 1 (.tmp 122), []⟩,
 ⟨some 124, some (121, true), .faddr 8 (.tmp 1), []⟩,
 ⟨some 125, some (121, true), .load false 1 (.tmp 124), []⟩,
 ⟨some 126, some (121, true), .call 63 [.tmp 123, .cst (.d (.int .i64 1)), .tmp 125], []⟩,
 ⟨some 127, none, .pick (.tmp 121) (.tmp 126) (.cst (.d (.bool false))), []⟩,
 ⟨some 128, none, .mv (.tmp 127), []⟩,
 ⟨some 129, some (128, true), .faddr 1 (.tmp 8), []⟩,
 ⟨some 130, some (128, true), .load false 1 (.tmp 129), []⟩,
 ⟨some 131, some (128, true), .faddr 7 (.tmp 1), []⟩,
 ⟨some 132, some (128, true), .load false 1 (.tmp 131), []⟩,
 ⟨some 133, some (128, true), .un .neg (.tmp 132), []⟩,
 ⟨some 134, some (128, true), .faddr 7 (.tmp 1), []⟩,
 ⟨some 135, some (128, true), .load false 1 (.tmp 134), []⟩,
 ⟨some 136, some (128, true), .call 63 [.tmp 130, .tmp 133, .tmp 135], []⟩,
 ⟨some 137, none, .pick (.tmp 128) (.tmp 136) (.cst (.d (.bool false))), []⟩,
 ⟨some 3, none, .mv (.tmp 137), []⟩])))
 (.reg false [⟨some 138, none, .bin .add (.tmp 116) (.cst (.d (.int .i64 1))), []⟩,
 ⟨some 116, none, .mv (.tmp 138), []⟩])))))))
 (.seq (.seq (.reg false [⟨some 139, none, .mv (.tmp 3), []⟩,
 ⟨some 140, none, .un .not (.tmp 139), []⟩])
 (.cond (.tmp 140) (.seq (.reg false [⟨some 2, none, .mv (.cst (.d (.int .i64 20))), []⟩])
 (.ret)) (.skip)))
 (.seq (.reg false [⟨some 2, none, .mv (.cst (.d (.int .i64 0))), []⟩])
 (.ret))))))))),
 [.tmp 2]⟩
theorem c18 : trF Tryd.prog Tryd.f18 = some i18 := by kernel_rfl
def i19 : IFun := ⟨113, .seq (.reg false [⟨some 1, none, .box 25 (.tmp 0), []⟩,
 ⟨some 2, none, .mv (.cst (.d (.int .i64 0))), []⟩])
 (.seq (.reg false [⟨some 6, none, .faddr 0 (.tmp 1), []⟩,
 ⟨some 7, none, .load false 1 (.tmp 6), []⟩,
 ⟨some 8, none, .call 43 [.tmp 7, .cst (.d (.int .i64 0)), .cst (.d (.int .i64 1))], []⟩,
 ⟨some 9, none, .mv (.tmp 8), []⟩,
 ⟨some 10, some (9, true), .faddr 1 (.tmp 1), []⟩,
 ⟨some 11, some (9, true), .load false 1 (.tmp 10), []⟩,
 ⟨some 12, some (9, true), .call 43 [.tmp 11, .cst (.d (.int .i64 1)), .cst (.d (.int .i64 60))], []⟩,
 ⟨some 13, none, .pick (.tmp 9) (.tmp 12) (.cst (.d (.bool false))), []⟩,
 ⟨some 14, none, .mv (.tmp 13), []⟩,
 ⟨some 15, some (14, true), .faddr 2 (.tmp 1), []⟩,
 ⟨some 16, some (14, true), .load false 1 (.tmp 15), []⟩,
 ⟨some 17, some (14, true), .call 43 [.tmp 16, .cst (.d (.int .i64 1)), .cst (.d (.int .i64 60))], []⟩,
 ⟨some 18, none, .pick (.tmp 14) (.tmp 17) (.cst (.d (.bool false))), []⟩,
 ⟨some 19, none, .mv (.tmp 18), []⟩,
 ⟨some 20, some (19, true), .faddr 4 (.tmp 1), []⟩,
 ⟨some 21, some (19, true), .load false 1 (.tmp 20), []⟩,
 ⟨some 22, some (19, true), .len (.tmp 21), []⟩,
 ⟨some 23, some (19, true), .call 43 [.tmp 22, .cst (.d (.int .i64 1)), .cst (.d (.int .i64 4))], []⟩,
 ⟨some 24, none, .pick (.tmp 19) (.tmp 23) (.cst (.d (.bool false))), []⟩,
 ⟨some 3, none, .mv (.tmp 24), []⟩])
 (.seq (.seq (.reg false [⟨some 25, none, .faddr 0 (.tmp 1), []⟩,
 ⟨some 26, none, .load false 1 (.tmp 25), []⟩,
 ⟨some 27, none, .bin .eql (.tmp 26) (.cst (.d (.int .i64 1))), []⟩])
 (.cond (.tmp 27) (.reg false [⟨some 28, none, .mv (.tmp 3), []⟩,
 ⟨some 29, none, .mv (.tmp 28), []⟩,
 ⟨some 30, some (29, true), .faddr 3 (.tmp 1), []⟩,
 ⟨some 31, some (29, true), .load false 1 (.tmp 30), []⟩,
 ⟨some 32, some (29, true), .call 43 [.tmp 31, .cst (.d (.int .i64 1)), .cst (.d (.int .i64 120))], []⟩,
 ⟨some 33, none, .pick (.tmp 29) (.tmp 32) (.cst (.d (.bool false))), []⟩,
 ⟨some 3, none, .mv (.tmp 33), []⟩]) (.reg false [⟨some 34, none, .mv (.tmp 3), []⟩,
 ⟨some 35, none, .mv (.tmp 34), []⟩,
 ⟨some 36, some (35, true), .faddr 3 (.tmp 1), []⟩,
 ⟨some 37, some (35, true), .load false 1 (.tmp 36), []⟩,
 ⟨some 38, some (35, true), .bin .eql (.tmp 37) (.cst (.d (.int .i64 0))), []⟩,
 ⟨some 39, none, .pick (.tmp 35) (.tmp 38) (.cst (.d (.bool false))), []⟩,
 ⟨some 3, none, .mv (.tmp 39), []⟩])))
 (.seq (.seq (.reg false [⟨some 4, none, .mv (.cst (.d (.int .i64 0))), []⟩])
 (.block 0 (.loop (.seq (.seq (.reg false [⟨some 40, none, .mv (.tmp 3), []⟩,
 ⟨some 41, none, .mv (.tmp 40), []⟩,
 ⟨some 42, some (41, true), .mv (.tmp 4), []⟩,
 ⟨some 43, some (41, true), .faddr 4 (.tmp 1), []⟩,
 ⟨some 44, some (41, true), .load false 1 (.tmp 43), []⟩,
 ⟨some 45, some (41, true), .len (.tmp 44), []⟩,
 ⟨some 46, some (41, true), .bin .lss (.tmp 42) (.tmp 45), []⟩,
 ⟨some 47, none, .pick (.tmp 41) (.tmp 46) (.cst (.d (.bool false))), []⟩])
 (.cond (.tmp 47) (.skip) (.exit 0)))
 (.seq (.block 1 (.reg false [⟨some 50, none, .faddr 4 (.tmp 1), []⟩,
 ⟨some 51, none, .load false 1 (.tmp 50), []⟩,
 ⟨some 52, none, .mv (.tmp 4), []⟩,
 ⟨some 53, none, .iaS 4 (.tmp 51) (.tmp 52), []⟩,
 ⟨some 54, none, .load true 4 (.tmp 53), []⟩,
 ⟨some 55, none, .call 64 [.tmp 54], []⟩,
 ⟨some 3, none, .mv (.tmp 55), []⟩]))
 (.reg false [⟨some 48, none, .mv (.tmp 4), []⟩,
 ⟨some 49, none, .bin .add (.tmp 48) (.cst (.d (.int .i64 1))), []⟩,
 ⟨some 4, none, .mv (.tmp 49), []⟩]))))))
 (.seq (.reg false [⟨some 56, none, .mv (.tmp 3), []⟩,
 ⟨some 57, none, .mv (.tmp 56), []⟩,
 ⟨some 58, some (57, true), .faddr 5 (.tmp 1), []⟩,
 ⟨some 59, some (57, true), .load false 1 (.tmp 58), []⟩,
 ⟨some 60, some (57, true), .call 43 [.tmp 59, .cst (.d (.int .i64 (-60))), .cst (.d (.int .i64 60))], []⟩,
 ⟨some 61, none, .pick (.tmp 57) (.tmp 60) (.cst (.d (.bool false))), []⟩,
 ⟨some 62, none, .mv (.tmp 61), []⟩,
 ⟨some 63, some (62, true), .faddr 6 (.tmp 1), []⟩,
 ⟨some 64, some (62, true), .load false 1 (.tmp 63), []⟩,
 ⟨some 65, some (62, true), .call 43 [.tmp 64, .cst (.d (.int .i64 0)), .cst (.d (.int .i64 60))], []⟩,
 ⟨some 66, none, .pick (.tmp 62) (.tmp 65) (.cst (.d (.bool false))), []⟩,
 ⟨some 67, none, .mv (.tmp 66), []⟩,
 ⟨some 68, some (67, true), .faddr 7 (.tmp 1), []⟩,
 ⟨some 69, some (67, true), .load false 1 (.tmp 68), []⟩,
 ⟨some 70, some (67, true), .call 43 [.tmp 69, .cst (.d (.int .i64 0)), .cst (.d (.int .i64 12))], []⟩,
 ⟨some 71, none, .pick (.tmp 67) (.tmp 70) (.cst (.d (.bool false))), []⟩,
 ⟨some 72, none, .mv (.tmp 71), []⟩,
 ⟨some 73, some (72, true), .faddr 8 (.tmp 1), []⟩,
 ⟨some 74, some (72, true), .load false 1 (.tmp 73), []⟩,
 ⟨some 75, some (72, true), .call 43 [.tmp 74, .cst (.d (.int .i64 1)), .cst (.d (.int .i64 60))], []⟩,
 ⟨some 76, none, .pick (.tmp 72) (.tmp 75) (.cst (.d (.bool false))), []⟩,
 ⟨some 77, none, .mv (.tmp 76), []⟩,
 ⟨some 78, some (77, true), .faddr 9 (.tmp 1), []⟩,
 ⟨some 79, some (77, true), .load false 1 (.tmp 78), []⟩,
 ⟨some 80, some (77, true), .len (.tmp 79), []⟩,
 ⟨some 81, some (77, true), .bin .leq (.tmp 80) (.cst (.d (.int .i64 5))), []⟩,
 ⟨some 82, none, .pick (.tmp 77) (.tmp 81) (.cst (.d (.bool false))), []⟩,
 ⟨some 3, none, .mv (.tmp 82), []⟩])
 (.seq (.seq (.reg false [⟨some 5, none, .mv (.cst (.d (.int .i64 0))), []⟩])
 (.block 2 (.loop (.seq (.seq (.reg false [⟨some 83, none, .mv (.tmp 3), []⟩,
 ⟨some 84, none, .mv (.tmp 83), []⟩,
 ⟨some 85, some (84, true), .mv (.tmp 5), []⟩,
 ⟨some 86, some (84, true), .faddr 9 (.tmp 1), []⟩,
 ⟨some 87, some (84, true), .load false 1 (.tmp 86), []⟩,
 ⟨some 88, some (84, true), .len (.tmp 87), []⟩,
 ⟨some 89, some (84, true), .bin .lss (.tmp 85) (.tmp 88), []⟩,
 ⟨some 90, none, .pick (.tmp 84) (.tmp 89) (.cst (.d (.bool false))), []⟩])
 (.cond (.tmp 90) (.skip) (.exit 2)))
 (.seq (.block 3 (.reg true [⟨some 93, none, .load true 10 (.tmp 1), []⟩,
 ⟨some 94, none, .faddr 9 (.tmp 1), []⟩,
 ⟨some 95, none, .load false 1 (.tmp 94), [1]⟩,
 ⟨some 96, none, .mv (.tmp 5), []⟩,
 ⟨some 97, none, .iaS 3 (.tmp 95) (.tmp 96), [2, 3]⟩,
 ⟨some 98, none, .faddr 0 (.tmp 97), [4]⟩,
 ⟨some 99, none, .load false 1 (.tmp 98), [5]⟩,
 ⟨some 100, none, .call 65 [.tmp 93, .tmp 99], [0, 6]⟩,
 ⟨some 101, none, .mv (.tmp 100), [7, 7]⟩,
 ⟨some 102, some (101, true), .load true 10 (.tmp 1), [8]⟩,
 ⟨some 103, some (101, true), .faddr 9 (.tmp 1), [8]⟩,
 ⟨some 104, some (101, true), .load false 1 (.tmp 103), [10, 8]⟩,
 ⟨some 105, some (101, true), .mv (.tmp 5), [8]⟩,
 ⟨some 106, some (101, true), .iaS 3 (.tmp 104) (.tmp 105), [11, 12, 8]⟩,
 ⟨some 107, some (101, true), .faddr 1 (.tmp 106), [13, 8]⟩,
 ⟨some 108, some (101, true), .load false 1 (.tmp 107), [14, 8]⟩,
 ⟨some 109, some (101, true), .call 66 [.tmp 102, .tmp 108], [9, 15, 8, 8]⟩,
 ⟨some 110, none, .pick (.tmp 101) (.tmp 109) (.cst (.d (.bool false))), [8, 16]⟩,
 ⟨some 3, none, .mv (.tmp 110), [17, 16, 0, 1, 2, 3, 4, 5, 6, 7, 8, 9, 10, 11, 12, 13, 14, 15, 16, 17]⟩]))
 (.reg false [⟨some 91, none, .mv (.tmp 5), []⟩,
 ⟨some 92, none, .bin .add (.tmp 91) (.cst (.d (.int .i64 1))), []⟩,
 ⟨some 5, none, .mv (.tmp 92), []⟩]))))))
 (.seq (.seq (.reg false [⟨some 111, none, .mv (.tmp 3), []⟩,
 ⟨some 112, none, .un .not (.tmp 111), []⟩])
 (.cond (.tmp 112) (.seq (.reg false [⟨some 2, none, .mv (.cst (.d (.int .i64 20))), []⟩])
 (.ret)) (.skip)))
 (.seq (.reg false [⟨some 2, none, .mv (.cst (.d (.int .i64 0))), []⟩])
 (.ret)))))))),
 [.tmp 2]⟩
theorem c19 : trF Tryd.prog Tryd.f19 = some i19 := by kernel_rfl
def i20 : IFun := ⟨56, .seq (.reg false [⟨some 3, none, .box 25 (.tmp 0), []⟩,
 ⟨some 6, none, .mv (.cst (.d (.int .i64 0))), []⟩,
 ⟨some 7, none, .mv (.cst (.d (.int .i64 0))), []⟩])
 (.seq (.reg true [⟨some 15, none, .load true 10 (.tmp 3), []⟩,
 ⟨some 16, none, .load true 10 (.tmp 3), []⟩,
 ⟨some 17, none, .mv (.tmp 1), []⟩,
 ⟨some 18, none, .call 68 [.tmp 16, .tmp 17], [1, 2]⟩,
 ⟨some 19, none, .mv (.tmp 18), [3, 3]⟩,
 ⟨some 20, some (19, true), .load true 10 (.tmp 3), [4]⟩,
 ⟨some 21, some (19, true), .mv (.tmp 2), [4]⟩,
 ⟨some 22, some (19, true), .call 69 [.tmp 20, .tmp 21], [5, 6, 4, 4]⟩,
 ⟨some 23, none, .pick (.tmp 19) (.tmp 22) (.cst (.d (.bool false))), [4, 7]⟩,
 ⟨some 24, none, .call 67 [.tmp 15, .tmp 23], [0, 8, 7]⟩,
 ⟨some 14, none, .mv (.tmp 24), [9]⟩,
 ⟨some 25, none, .ext (.tmp 14) 0, [10]⟩,
 ⟨some 26, none, .ext (.tmp 14) 1, [10]⟩,
 ⟨some 8, none, .alloc 83 [.int .i64 0, .int .i64 0, .int .i64 0, .int .i64 0, .nilSl, .int .i64 0, .int .i64 0, .int .i64 0, .int .i64 0, .nilSl, .nilSl, .int .i64 0, .int .i64 0, .int .i64 0, .nilMap], []⟩,
 ⟨none, none, .store 15 (.tmp 8) (.tmp 25), [13, 11, 9, 0, 1, 2, 3, 4, 5, 6, 7, 8, 9, 10, 11, 13]⟩,
 ⟨some 9, none, .mv (.tmp 26), [12, 14, 0, 1, 2, 3, 4, 5, 6, 7, 8, 9, 10, 11, 12, 13, 14]⟩])
 (.seq (.seq (.reg false [⟨some 27, none, .mv (.tmp 9), []⟩,
 ⟨some 28, none, .bin .neq (.tmp 27) (.cst (.d (.int .i64 0))), []⟩])
 (.cond (.tmp 28) (.seq (.reg false [⟨some 29, none, .mv (.tmp 9), []⟩,
 ⟨some 6, none, .mv (.cst (.d (.int .i64 0))), []⟩,
 ⟨some 7, none, .mv (.tmp 29), []⟩])
 (.ret)) (.skip)))
 (.seq (.reg true [⟨some 30, none, .load true 15 (.tmp 8), []⟩,
 ⟨some 31, none, .mkf 70 [.tmp 30] [], [0]⟩,
 ⟨some 10, none, .mv (.cst (.d (.int .i64 0))), []⟩,
 ⟨some 11, none, .mv (.tmp 31), [1, 2, 0, 1, 2]⟩])
 (.seq (.seq (.reg false [⟨some 32, none, .faddr 10 (.tmp 8), []⟩,
 ⟨some 33, none, .load false 1 (.tmp 32), []⟩,
 ⟨some 34, none, .len (.tmp 33), []⟩,
 ⟨some 35, none, .mv (.cst (.d (.int .i64 0))), []⟩])
 (.block 0 (.loop (.seq (.reg false [⟨some 36, none, .bin .lss (.tmp 35) (.tmp 34), []⟩])
 (.seq (.cond (.tmp 36) (.skip) (.exit 0))
 (.seq (.block 1 (.seq (.reg false [⟨some 37, none, .iaS 4 (.tmp 33) (.tmp 35), []⟩,
 ⟨some 38, none, .load true 4 (.tmp 37), []⟩,
 ⟨some 13, none, .alloc 92 [.int .i64 0, .int .i64 0, .int .i64 0, .int .i64 0], []⟩,
 ⟨none, none, .store 4 (.tmp 13) (.tmp 38), []⟩])
 (.seq (.reg false [⟨some 39, none, .mv (.tmp 11), []⟩,
 ⟨some 40, none, .load true 4 (.tmp 13), []⟩,
 ⟨some 41, none, .mv (.tmp 1), []⟩,
 ⟨some 42, none, .mv (.tmp 2), []⟩,
 ⟨some 43, none, .build [.int .i64 0, .int .i64 0] [(0, 1, .tmp 41), (1, 1, .tmp 42)], []⟩,
 ⟨some 44, none, .callv (.tmp 39) [.tmp 40, .tmp 43], []⟩])
 (.cond (.tmp 44) (.reg false [⟨some 45, none, .mv (.tmp 10), []⟩,
 ⟨some 46, none, .bin .add (.tmp 45) (.cst (.d (.int .i64 1))), []⟩,
 ⟨some 10, none, .mv (.tmp 46), []⟩]) (.skip)))))
 (.reg false [⟨some 47, none, .bin .add (.tmp 35) (.cst (.d (.int .i64 1))), []⟩,
 ⟨some 35, none, .mv (.tmp 47), []⟩])))))))
 (.seq (.seq (.reg false [⟨some 48, none, .mv (.tmp 10), []⟩])
 (.block 2 (.seq (.reg false [⟨some 50, none, .bin .eql (.tmp 48) (.cst (.d (.int .i64 0))), []⟩,
 ⟨some 49, none, .mv (.tmp 50), []⟩])
 (.cond (.tmp 49) (.seq (.reg false [⟨some 6, none, .mv (.cst (.d (.int .i64 0))), []⟩,
 ⟨some 7, none, .mv (.cst (.d (.int .i64 0))), []⟩])
 (.ret)) (.seq (.reg false [⟨some 52, none, .faddr 10 (.tmp 8), []⟩,
 ⟨some 53, none, .load false 1 (.tmp 52), []⟩,
 ⟨some 54, none, .len (.tmp 53), []⟩,
 ⟨some 55, none, .bin .eql (.tmp 48) (.tmp 54), []⟩,
 ⟨some 51, none, .mv (.tmp 55), []⟩])
 (.cond (.tmp 51) (.seq (.reg false [⟨some 6, none, .mv (.cst (.d (.int .i64 2))), []⟩,
 ⟨some 7, none, .mv (.cst (.d (.int .i64 0))), []⟩])
 (.ret)) (.skip)))))))
 (.seq (.reg false [⟨some 6, none, .mv (.cst (.d (.int .i64 1))), []⟩,
 ⟨some 7, none, .mv (.cst (.d (.int .i64 0))), []⟩])
 (.ret))))))),
 [.tmp 6, .tmp 7]⟩
theorem c20 : trF Tryd.prog Tryd.f20 = some i20 := by kernel_rfl
def i21 : IFun := ⟨51, .seq (.reg false [⟨some 3, none, .box 25 (.tmp 0), []⟩,
 ⟨some 6, none, .mv (.cst (.d (.int .i64 0))), []⟩,
 ⟨some 7, none, .mv (.cst (.d (.int .i64 0))), []⟩])
 (.seq (.reg true [⟨some 13, none, .load true 10 (.tmp 3), []⟩,
 ⟨some 14, none, .load true 10 (.tmp 3), []⟩,
 ⟨some 15, none, .mv (.tmp 1), []⟩,
 ⟨some 16, none, .call 65 [.tmp 14, .tmp 15], [1, 2]⟩,
 ⟨some 17, none, .mv (.tmp 16), [3, 3]⟩,
 ⟨some 18, some (17, true), .load true 10 (.tmp 3), [4]⟩,
 ⟨some 19, some (17, true), .mv (.tmp 2), [4]⟩,
 ⟨some 20, some (17, true), .call 66 [.tmp 18, .tmp 19], [5, 6, 4, 4]⟩,
 ⟨some 21, none, .pick (.tmp 17) (.tmp 20) (.cst (.d (.bool false))), [4, 7]⟩,
 ⟨some 22, none, .call 71 [.tmp 13, .tmp 21], [0, 8, 7]⟩,
 ⟨some 12, none, .mv (.tmp 22), [9]⟩,
 ⟨some 23, none, .ext (.tmp 12) 0, [10]⟩,
 ⟨some 24, none, .ext (.tmp 12) 1, [10]⟩,
 ⟨some 8, none, .mv (.tmp 23), [11, 9, 0, 1, 2, 3, 4, 5, 6, 7, 8, 9, 10, 11]⟩,
 ⟨some 9, none, .mv (.tmp 24), [12, 13, 0, 1, 2, 3, 4, 5, 6, 7, 8, 9, 10, 11, 12, 13]⟩])
 (.seq (.seq (.reg false [⟨some 25, none, .mv (.tmp 9), []⟩,
 ⟨some 26, none, .bin .neq (.tmp 25) (.cst (.d (.int .i64 0))), []⟩])
 (.cond (.tmp 26) (.seq (.reg false [⟨some 27, none, .mv (.tmp 9), []⟩,
 ⟨some 6, none, .mv (.cst (.d (.int .i64 0))), []⟩,
 ⟨some 7, none, .mv (.tmp 27), []⟩])
 (.ret)) (.skip)))
 (.seq (.reg false [⟨some 10, none, .mv (.cst (.d (.int .i64 0))), []⟩])
 (.seq (.seq (.reg false [⟨some 11, none, .mv (.cst (.d (.int .i64 0))), []⟩])
 (.block 0 (.loop (.seq (.seq (.reg false [⟨some 28, none, .mv (.tmp 11), []⟩,
 ⟨some 29, none, .mv (.tmp 8), []⟩,
 ⟨some 30, none, .len (.tmp 29), []⟩,
 ⟨some 31, none, .bin .lss (.tmp 28) (.tmp 30), []⟩])
 (.cond (.tmp 31) (.skip) (.exit 0)))
 (.seq (.block 1 (.seq (.reg true [⟨some 34, none, .load true 10 (.tmp 3), []⟩,
 ⟨some 35, none, .mv (.tmp 8), []⟩,
 ⟨some 36, none, .mv (.tmp 11), []⟩,
 ⟨some 37, none, .iaS 1 (.tmp 35) (.tmp 36), [1, 2]⟩,
 ⟨some 38, none, .load false 1 (.tmp 37), [3]⟩,
 ⟨some 39, none, .mv (.tmp 1), []⟩,
 ⟨some 40, none, .mv (.tmp 2), []⟩,
 ⟨some 41, none, .call 72 [.tmp 34, .tmp 38, .tmp 39, .tmp 40], [0, 4, 5, 6]⟩])
 (.cond (.tmp 41) (.reg false [⟨some 42, none, .mv (.tmp 10), []⟩,
 ⟨some 43, none, .bin .add (.tmp 42) (.cst (.d (.int .i64 1))), []⟩,
 ⟨some 10, none, .mv (.tmp 43), []⟩]) (.skip))))
 (.reg false [⟨some 32, none, .mv (.tmp 11), []⟩,
 ⟨some 33, none, .bin .add (.tmp 32) (.cst (.d (.int .i64 1))), []⟩,
 ⟨some 11, none, .mv (.tmp 33), []⟩]))))))
 (.seq (.seq (.reg false [⟨some 44, none, .mv (.tmp 10), []⟩])
 (.block 2 (.seq (.reg false [⟨some 46, none, .bin .eql (.tmp 44) (.cst (.d (.int .i64 0))), []⟩,
 ⟨some 45, none, .mv (.tmp 46), []⟩])
 (.cond (.tmp 45) (.seq (.reg false [⟨some 6, none, .mv (.cst (.d (.int .i64 0))), []⟩,
 ⟨some 7, none, .mv (.cst (.d (.int .i64 0))), []⟩])
 (.ret)) (.seq (.reg false [⟨some 48, none, .mv (.tmp 8), []⟩,
 ⟨some 49, none, .len (.tmp 48), []⟩,
 ⟨some 50, none, .bin .eql (.tmp 44) (.tmp 49), []⟩,
 ⟨some 47, none, .mv (.tmp 50), []⟩])
 (.cond (.tmp 47) (.seq (.reg false [⟨some 6, none, .mv (.cst (.d (.int .i64 2))), []⟩,
 ⟨some 7, none, .mv (.cst (.d (.int .i64 0))), []⟩])
 (.ret)) (.skip)))))))
 (.seq (.reg false [⟨some 6, none, .mv (.cst (.d (.int .i64 1))), []⟩,
 ⟨some 7, none, .mv (.cst (.d (.int .i64 0))), []⟩])
 (.ret))))))),
 [.tmp 6, .tmp 7]⟩
theorem c21 : trF Tryd.prog Tryd.f21 = some i21 := by kernel_rfl
def i22 : IFun := ⟨32, .seq (.reg false [⟨some 3, none, .box 25 (.tmp 0), []⟩,
 ⟨some 6, none, .alloc 34 [.int .i64 0, .int .i64 0], []⟩,
 ⟨some 7, none, .mv (.cst (.d (.int .i64 0))), []⟩])
 (.seq (.reg true [⟨some 11, none, .load true 10 (.tmp 3), []⟩,
 ⟨some 12, none, .load true 10 (.tmp 3), []⟩,
 ⟨some 13, none, .mv (.tmp 1), []⟩,
 ⟨some 14, none, .call 68 [.tmp 12, .tmp 13], [1, 2]⟩,
 ⟨some 15, none, .mv (.tmp 14), [3, 3]⟩,
 ⟨some 16, some (15, true), .load true 10 (.tmp 3), [4]⟩,
 ⟨some 17, some (15, true), .mv (.tmp 2), [4]⟩,
 ⟨some 18, some (15, true), .call 69 [.tmp 16, .tmp 17], [5, 6, 4, 4]⟩,
 ⟨some 19, none, .pick (.tmp 15) (.tmp 18) (.cst (.d (.bool false))), [4, 7]⟩,
 ⟨some 20, none, .call 67 [.tmp 11, .tmp 19], [0, 8, 7]⟩,
 ⟨some 10, none, .mv (.tmp 20), [9]⟩,
 ⟨some 21, none, .ext (.tmp 10) 0, [10]⟩,
 ⟨some 22, none, .ext (.tmp 10) 1, [10]⟩,
 ⟨some 8, none, .alloc 83 [.int .i64 0, .int .i64 0, .int .i64 0, .int .i64 0, .nilSl, .int .i64 0, .int .i64 0, .int .i64 0, .int .i64 0, .nilSl, .nilSl, .int .i64 0, .int .i64 0, .int .i64 0, .nilMap], []⟩,
 ⟨none, none, .store 15 (.tmp 8) (.tmp 21), [13, 11, 9, 0, 1, 2, 3, 4, 5, 6, 7, 8, 9, 10, 11, 13]⟩,
 ⟨some 9, none, .mv (.tmp 22), [12, 14, 0, 1, 2, 3, 4, 5, 6, 7, 8, 9, 10, 11, 12, 13, 14]⟩])
 (.seq (.seq (.reg false [⟨some 23, none, .mv (.tmp 9), []⟩,
 ⟨some 24, none, .bin .neq (.tmp 23) (.cst (.d (.int .i64 0))), []⟩])
 (.cond (.tmp 24) (.seq (.reg false [⟨some 25, none, .build [.int .i64 0, .int .i64 0] [], []⟩,
 ⟨some 26, none, .mv (.tmp 9), []⟩,
 ⟨none, none, .store 2 (.tmp 6) (.tmp 25), []⟩,
 ⟨some 7, none, .mv (.tmp 26), []⟩])
 (.ret)) (.skip)))
 (.seq (.reg false [⟨some 27, none, .load true 15 (.tmp 8), []⟩,
 ⟨some 28, none, .mv (.tmp 1), []⟩,
 ⟨some 29, none, .mv (.tmp 2), []⟩,
 ⟨some 30, none, .build [.int .i64 0, .int .i64 0] [(0, 1, .tmp 28), (1, 1, .tmp 29)], []⟩,
 ⟨some 31, none, .call 73 [.tmp 27, .tmp 30], []⟩,
 ⟨none, none, .store 2 (.tmp 6) (.tmp 31), []⟩,
 ⟨some 7, none, .mv (.cst (.d (.int .i64 0))), []⟩])
 (.ret)))),
 [.cell true 2 6, .tmp 7]⟩
theorem c22 : trF Tryd.prog Tryd.f22 = some i22 := by kernel_rfl
def i23 : IFun := ⟨71, .seq (.reg false [⟨some 3, none, .box 25 (.tmp 0), []⟩,
 ⟨some 6, none, .alloc 34 [.int .i64 0, .int .i64 0], []⟩,
 ⟨some 7, none, .mv (.cst (.d (.int .i64 0))), []⟩])
 (.seq (.reg true [⟨some 16, none, .load true 10 (.tmp 3), []⟩,
 ⟨some 17, none, .load true 10 (.tmp 3), []⟩,
 ⟨some 18, none, .mv (.tmp 1), []⟩,
 ⟨some 19, none, .call 65 [.tmp 17, .tmp 18], [1, 2]⟩,
 ⟨some 20, none, .mv (.tmp 19), [3, 3]⟩,
 ⟨some 21, some (20, true), .load true 10 (.tmp 3), [4]⟩,
 ⟨some 22, some (20, true), .mv (.tmp 2), [4]⟩,
 ⟨some 23, some (20, true), .call 66 [.tmp 21, .tmp 22], [5, 6, 4, 4]⟩,
 ⟨some 24, none, .pick (.tmp 20) (.tmp 23) (.cst (.d (.bool false))), [4, 7]⟩,
 ⟨some 25, none, .call 71 [.tmp 16, .tmp 24], [0, 8, 7]⟩,
 ⟨some 15, none, .mv (.tmp 25), [9]⟩,
 ⟨some 26, none, .ext (.tmp 15) 0, [10]⟩,
 ⟨some 27, none, .ext (.tmp 15) 1, [10]⟩,
 ⟨some 8, none, .mv (.tmp 26), [11, 9, 0, 1, 2, 3, 4, 5, 6, 7, 8, 9, 10, 11]⟩,
 ⟨some 9, none, .mv (.tmp 27), [12, 13, 0, 1, 2, 3, 4, 5, 6, 7, 8, 9, 10, 11, 12, 13]⟩])
 (.seq (.seq (.reg false [⟨some 28, none, .mv (.tmp 9), []⟩,
 ⟨some 29, none, .bin .neq (.tmp 28) (.cst (.d (.int .i64 0))), []⟩])
 (.cond (.tmp 29) (.seq (.reg false [⟨some 30, none, .build [.int .i64 0, .int .i64 0] [], []⟩,
 ⟨some 31, none, .mv (.tmp 9), []⟩,
 ⟨none, none, .store 2 (.tmp 6) (.tmp 30), []⟩,
 ⟨some 7, none, .mv (.tmp 31), []⟩])
 (.ret)) (.skip)))
 (.seq (.reg true [⟨some 33, none, .load true 10 (.tmp 3), []⟩,
 ⟨some 34, none, .mv (.tmp 8), []⟩,
 ⟨some 35, none, .iaS 1 (.tmp 34) (.cst (.d (.int .i64 0))), [1]⟩,
 ⟨some 36, none, .load false 1 (.tmp 35), [2]⟩,
 ⟨some 37, none, .mv (.tmp 1), []⟩,
 ⟨some 38, none, .mv (.tmp 2), []⟩,
 ⟨some 39, none, .call 74 [.tmp 33, .tmp 36, .tmp 37, .tmp 38], [0, 3, 4, 5]⟩,
 ⟨some 32, none, .mv (.tmp 39), [6]⟩,
 ⟨some 40, none, .ext (.tmp 32) 0, [7]⟩,
 ⟨some 41, none, .ext (.tmp 32) 1, [7]⟩,
 ⟨some 10, none, .mv (.tmp 40), [8, 6, 0, 1, 2, 3, 4, 5, 6, 7, 8]⟩,
 ⟨some 11, none, .mv (.tmp 41), [9, 10, 0, 1, 2, 3, 4, 5, 6, 7, 8, 9, 10]⟩])
 (.seq (.seq (.reg false [⟨some 12, none, .mv (.cst (.d (.int .i64 0))), []⟩])
 (.block 0 (.loop (.seq (.seq (.reg false [⟨some 42, none, .mv (.tmp 12), []⟩,
 ⟨some 43, none, .mv (.tmp 8), []⟩,
 ⟨some 44, none, .len (.tmp 43), []⟩,
 ⟨some 45, none, .bin .lss (.tmp 42) (.tmp 44), []⟩])
 (.cond (.tmp 45) (.skip) (.exit 0)))
 (.seq (.block 1 (.seq (.reg true [⟨some 49, none, .load true 10 (.tmp 3), []⟩,
 ⟨some 50, none, .mv (.tmp 8), []⟩,
 ⟨some 51, none, .mv (.tmp 12), []⟩,
 ⟨some 52, none, .iaS 1 (.tmp 50) (.tmp 51), [1, 2]⟩,
 ⟨some 53, none, .load false 1 (.tmp 52), [3]⟩,
 ⟨some 54, none, .mv (.tmp 1), []⟩,
 ⟨some 55, none, .mv (.tmp 2), []⟩,
 ⟨some 56, none, .call 74 [.tmp 49, .tmp 53, .tmp 54, .tmp 55], [0, 4, 5, 6]⟩,
 ⟨some 48, none, .mv (.tmp 56), [7]⟩,
 ⟨some 57, none, .ext (.tmp 48) 0, [8]⟩,
 ⟨some 58, none, .ext (.tmp 48) 1, [8]⟩,
 ⟨some 13, none, .mv (.tmp 57), [9, 7, 0, 1, 2, 3, 4, 5, 6, 7, 8, 9]⟩,
 ⟨some 14, none, .mv (.tmp 58), [10, 11, 0, 1, 2, 3, 4, 5, 6, 7, 8, 9, 10, 11]⟩])
 (.seq (.reg false [⟨some 59, none, .mv (.tmp 13), []⟩,
 ⟨some 60, none, .mv (.tmp 11), []⟩,
 ⟨some 61, none, .bin .mul (.tmp 59) (.tmp 60), []⟩,
 ⟨some 62, none, .mv (.tmp 10), []⟩,
 ⟨some 63, none, .mv (.tmp 14), []⟩,
 ⟨some 64, none, .bin .mul (.tmp 62) (.tmp 63), []⟩,
 ⟨some 65, none, .bin .lss (.tmp 61) (.tmp 64), []⟩])
 (.cond (.tmp 65) (.reg false [⟨some 66, none, .mv (.tmp 13), []⟩,
 ⟨some 67, none, .mv (.tmp 14), []⟩,
 ⟨some 10, none, .mv (.tmp 66), []⟩,
 ⟨some 11, none, .mv (.tmp 67), []⟩]) (.skip)))))
 (.reg false [⟨some 46, none, .mv (.tmp 12), []⟩,
 ⟨some 47, none, .bin .add (.tmp 46) (.cst (.d (.int .i64 1))), []⟩,
 ⟨some 12, none, .mv (.tmp 47), []⟩]))))))
 (.seq (.reg false [⟨some 68, none, .mv (.tmp 10), []⟩,
 ⟨some 69, none, .mv (.tmp 11), []⟩,
 ⟨some 70, none, .call 75 [.tmp 68, .tmp 69], []⟩,
 ⟨none, none, .store 2 (.tmp 6) (.tmp 70), []⟩,
 ⟨some 7, none, .mv (.cst (.d (.int .i64 0))), []⟩])
 (.ret)))))),
 [.cell true 2 6, .tmp 7]⟩
theorem c23 : trF Tryd.prog Tryd.f23 = some i23 := by kernel_rfl
def i24 : IFun := ⟨144, .seq (.reg false [⟨some 0, none, .mv (.cst (.d (.bool false))), []⟩])
 (.seq (.reg false [⟨some 17, none, .call 55 [], []⟩,
 ⟨some 18, none, .call 20 [.tmp 17, .cst (.d (.int .i64 20)), .cst (.d (.int .i64 (-8)))], []⟩,
 ⟨some 16, none, .mv (.tmp 18), []⟩,
 ⟨some 19, none, .ext (.tmp 16) 0, []⟩,
 ⟨some 20, none, .ext (.tmp 16) 1, []⟩,
 ⟨some 1, none, .mv (.tmp 19), []⟩,
 ⟨some 2, none, .mv (.tmp 20), []⟩])
 (.seq (.reg false [⟨some 22, none, .call 55 [], []⟩,
 ⟨some 23, none, .call 22 [.tmp 22, .cst (.d (.int .i64 10)), .cst (.d (.int .i64 (-8)))], []⟩,
 ⟨some 21, none, .mv (.tmp 23), []⟩,
 ⟨some 24, none, .ext (.tmp 21) 0, []⟩,
 ⟨some 25, none, .ext (.tmp 21) 1, []⟩,
 ⟨some 3, none, .alloc 34 [.int .i64 0, .int .i64 0], []⟩,
 ⟨none, none, .store 2 (.tmp 3) (.tmp 24), []⟩,
 ⟨some 4, none, .mv (.tmp 25), []⟩])
 (.seq (.reg false [⟨some 27, none, .call 59 [], []⟩,
 ⟨some 28, none, .call 27 [.tmp 27], []⟩,
 ⟨some 26, none, .mv (.tmp 28), []⟩,
 ⟨some 29, none, .ext (.tmp 26) 0, []⟩,
 ⟨some 30, none, .ext (.tmp 26) 1, []⟩,
 ⟨some 5, none, .mv (.tmp 29), []⟩,
 ⟨some 6, none, .mv (.tmp 30), []⟩])
 (.seq (.reg false [⟨some 32, none, .call 55 [], []⟩,
 ⟨some 33, none, .call 29 [.tmp 32, .cst (.d (.int .i64 20))], []⟩,
 ⟨some 31, none, .mv (.tmp 33), []⟩,
 ⟨some 34, none, .ext (.tmp 31) 0, []⟩,
 ⟨some 35, none, .ext (.tmp 31) 1, []⟩,
 ⟨some 7, none, .alloc 42 [.int .i64 0, .int .i64 0], []⟩,
 ⟨none, none, .store 2 (.tmp 7) (.tmp 34), []⟩,
 ⟨some 8, none, .mv (.tmp 35), []⟩])
 (.seq (.reg false [⟨some 37, none, .call 55 [], []⟩,
 ⟨some 38, none, .call 31 [.tmp 37, .cst (.d (.int .i64 10))], []⟩,
 ⟨some 36, none, .mv (.tmp 38), []⟩,
 ⟨some 39, none, .ext (.tmp 36) 0, []⟩,
 ⟨some 40, none, .ext (.tmp 36) 1, []⟩,
 ⟨some 9, none, .mv (.tmp 39), []⟩,
 ⟨some 10, none, .mv (.tmp 40), []⟩])
 (.seq (.seq (.reg true [⟨some 41, none, .mv (.tmp 2), []⟩,
 ⟨some 42, none, .bin .neq (.tmp 41) (.cst (.d (.int .i64 0))), [0]⟩,
 ⟨some 43, none, .mv (.tmp 42), [1]⟩,
 ⟨some 44, some (43, false), .mv (.tmp 4), [2]⟩,
 ⟨some 45, some (43, false), .bin .neq (.tmp 44) (.cst (.d (.int .i64 0))), [3, 2]⟩,
 ⟨some 46, none, .pick (.tmp 43) (.cst (.d (.bool true))) (.tmp 45), [2, 4]⟩,
 ⟨some 47, none, .mv (.tmp 46), [5, 2]⟩,
 ⟨some 48, some (47, false), .mv (.tmp 6), [6]⟩,
 ⟨some 49, some (47, false), .bin .neq (.tmp 48) (.cst (.d (.int .i64 0))), [7, 6]⟩,
 ⟨some 50, none, .pick (.tmp 47) (.cst (.d (.bool true))) (.tmp 49), [6, 8]⟩,
 ⟨some 51, none, .mv (.tmp 50), [9, 6]⟩,
 ⟨some 52, some (51, false), .mv (.tmp 8), [10]⟩,
 ⟨some 53, some (51, false), .bin .neq (.tmp 52) (.cst (.d (.int .i64 0))), [11, 10]⟩,
 ⟨some 54, none, .pick (.tmp 51) (.cst (.d (.bool true))) (.tmp 53), [10, 12]⟩,
 ⟨some 55, none, .mv (.tmp 54), [13, 10]⟩,
 ⟨some 56, some (55, false), .mv (.tmp 10), [14]⟩,
 ⟨some 57, some (55, false), .bin .neq (.tmp 56) (.cst (.d (.int .i64 0))), [15, 14]⟩,
 ⟨some 58, none, .pick (.tmp 55) (.cst (.d (.bool true))) (.tmp 57), [14, 16]⟩,
 ⟨some 59, none, .mv (.tmp 58), [17, 14]⟩,
 ⟨some 60, some (59, false), .mv (.tmp 1), [18]⟩,
 ⟨some 61, some (59, false), .bin .neq (.tmp 60) (.cst (.d (.int .i64 1))), [19, 18]⟩,
 ⟨some 62, none, .pick (.tmp 59) (.cst (.d (.bool true))) (.tmp 61), [18, 20]⟩,
 ⟨some 63, none, .mv (.tmp 62), [21, 18]⟩,
 ⟨some 64, some (63, false), .load true 2 (.tmp 3), [22]⟩,
 ⟨some 65, some (63, false), .call 60 [.cst (.d (.int .i64 38)), .cst (.d (.int .i64 17))], [22, 22]⟩,
 ⟨some 66, some (63, false), .aeq true 34 (.tmp 64) (.tmp 65), [23, 24, 22]⟩,
 ⟨some 67, none, .pick (.tmp 63) (.cst (.d (.bool true))) (.tmp 66), [22, 25]⟩,
 ⟨some 68, none, .mv (.tmp 67), [26, 24]⟩,
 ⟨some 69, some (68, false), .mv (.tmp 5), [27]⟩,
 ⟨some 70, some (68, false), .bin .neq (.tmp 69) (.cst (.d (.int .i64 22))), [28, 27]⟩,
 ⟨some 71, none, .pick (.tmp 68) (.cst (.d (.bool true))) (.tmp 70), [27, 29]⟩,
 ⟨some 72, none, .mv (.tmp 71), [30, 27]⟩,
 ⟨some 73, some (72, false), .load true 2 (.tmp 7), [31]⟩,
 ⟨some 74, some (72, false), .call 46 [.cst (.d (.int .i64 (-7))), .cst (.d (.int .i64 8))], [31, 31]⟩,
 ⟨some 75, some (72, false), .aeq true 42 (.tmp 73) (.tmp 74), [32, 33, 31]⟩,
 ⟨some 76, none, .pick (.tmp 72) (.cst (.d (.bool true))) (.tmp 75), [31, 34]⟩,
 ⟨some 77, none, .mv (.tmp 76), [35, 33]⟩,
 ⟨some 78, some (77, false), .mv (.tmp 9), [36]⟩,
 ⟨some 79, some (77, false), .bin .neq (.tmp 78) (.cst (.d (.int .i64 6))), [37, 36]⟩,
 ⟨some 80, none, .pick (.tmp 77) (.cst (.d (.bool true))) (.tmp 79), [36, 38]⟩])
 (.cond (.tmp 80) (.seq (.reg false [⟨some 0, none, .mv (.cst (.d (.bool false))), []⟩])
 (.ret)) (.skip)))
 (.seq (.reg false [⟨some 82, none, .call 55 [], []⟩,
 ⟨some 83, none, .call 33 [.tmp 82], []⟩,
 ⟨some 81, none, .mv (.tmp 83), []⟩,
 ⟨some 84, none, .ext (.tmp 81) 0, []⟩,
 ⟨some 85, none, .ext (.tmp 81) 1, []⟩,
 ⟨some 11, none, .mv (.tmp 84), []⟩,
 ⟨some 2, none, .mv (.tmp 85), []⟩])
 (.seq (.reg false [⟨some 87, none, .call 58 [], []⟩,
 ⟨some 88, none, .call 35 [.tmp 87], []⟩,
 ⟨some 86, none, .mv (.tmp 88), []⟩,
 ⟨some 89, none, .ext (.tmp 86) 0, []⟩,
 ⟨some 90, none, .ext (.tmp 86) 1, []⟩,
 ⟨some 12, none, .mv (.tmp 89), []⟩,
 ⟨some 4, none, .mv (.tmp 90), []⟩])
 (.seq (.reg false [⟨some 92, none, .call 55 [], []⟩,
 ⟨some 93, none, .call 25 [.tmp 92, .cst (.d (.int .i64 19))], []⟩,
 ⟨some 91, none, .mv (.tmp 93), []⟩,
 ⟨some 94, none, .ext (.tmp 91) 0, []⟩,
 ⟨some 95, none, .ext (.tmp 91) 1, []⟩,
 ⟨some 13, none, .mv (.tmp 94), []⟩,
 ⟨some 6, none, .mv (.tmp 95), []⟩])
 (.seq (.reg false [⟨some 97, none, .call 55 [], []⟩,
 ⟨some 98, none, .call 16 [.tmp 97], []⟩,
 ⟨some 96, none, .mv (.tmp 98), []⟩,
 ⟨some 99, none, .ext (.tmp 96) 0, []⟩,
 ⟨some 100, none, .ext (.tmp 96) 1, []⟩,
 ⟨some 14, none, .mv (.tmp 99), []⟩,
 ⟨some 8, none, .mv (.tmp 100), []⟩])
 (.seq (.reg false [⟨some 102, none, .call 56 [], []⟩,
 ⟨some 103, none, .call 22 [.tmp 102, .cst (.d (.int .i64 30)), .cst (.d (.int .i64 (-8)))], []⟩,
 ⟨some 101, none, .mv (.tmp 103), []⟩,
 ⟨some 104, none, .ext (.tmp 101) 0, []⟩,
 ⟨some 105, none, .ext (.tmp 101) 1, []⟩,
 ⟨some 15, none, .alloc 34 [.int .i64 0, .int .i64 0], []⟩,
 ⟨none, none, .store 2 (.tmp 15) (.tmp 104), []⟩,
 ⟨some 10, none, .mv (.tmp 105), []⟩])
 (.seq (.reg true [⟨some 106, none, .mv (.tmp 2), []⟩,
 ⟨some 107, none, .bin .eql (.tmp 106) (.cst (.d (.int .i64 0))), [0]⟩,
 ⟨some 108, none, .mv (.tmp 107), [1]⟩,
 ⟨some 109, some (108, true), .mv (.tmp 4), [2]⟩,
 ⟨some 110, some (108, true), .bin .eql (.tmp 109) (.cst (.d (.int .i64 0))), [3, 2]⟩,
 ⟨some 111, none, .pick (.tmp 108) (.tmp 110) (.cst (.d (.bool false))), [2, 4]⟩,
 ⟨some 112, none, .mv (.tmp 111), [5, 2]⟩,
 ⟨some 113, some (112, true), .mv (.tmp 6), [6]⟩,
 ⟨some 114, some (112, true), .bin .eql (.tmp 113) (.cst (.d (.int .i64 0))), [7, 6]⟩,
 ⟨some 115, none, .pick (.tmp 112) (.tmp 114) (.cst (.d (.bool false))), [6, 8]⟩,
 ⟨some 116, none, .mv (.tmp 115), [9, 6]⟩,
 ⟨some 117, some (116, true), .mv (.tmp 8), [10]⟩,
 ⟨some 118, some (116, true), .bin .eql (.tmp 117) (.cst (.d (.int .i64 0))), [11, 10]⟩,
 ⟨some 119, none, .pick (.tmp 116) (.tmp 118) (.cst (.d (.bool false))), [10, 12]⟩,
 ⟨some 120, none, .mv (.tmp 119), [13, 10]⟩,
 ⟨some 121, some (120, true), .mv (.tmp 10), [14]⟩,
 ⟨some 122, some (120, true), .bin .eql (.tmp 121) (.cst (.d (.int .i64 0))), [15, 14]⟩,
 ⟨some 123, none, .pick (.tmp 120) (.tmp 122) (.cst (.d (.bool false))), [14, 16]⟩,
 ⟨some 124, none, .mv (.tmp 123), [17, 14]⟩,
 ⟨some 125, some (124, true), .mv (.tmp 11), [18]⟩,
 ⟨some 126, some (124, true), .bin .eql (.tmp 125) (.cst (.d (.int .i64 2))), [19, 18]⟩,
 ⟨some 127, none, .pick (.tmp 124) (.tmp 126) (.cst (.d (.bool false))), [18, 20]⟩,
 ⟨some 128, none, .mv (.tmp 127), [21, 18]⟩,
 ⟨some 129, some (128, true), .mv (.tmp 12), [22]⟩,
 ⟨some 130, some (128, true), .bsl 3 1 1 [.int .i64 0] [(0, 1, .cst (.d (.int .i64 0)))], [22]⟩,
 ⟨some 131, some (128, true), .call 37 [.tmp 129, .tmp 130], [23, 24, 22, 22]⟩,
 ⟨some 132, none, .pick (.tmp 128) (.tmp 131) (.cst (.d (.bool false))), [22, 25]⟩,
 ⟨some 133, none, .mv (.tmp 132), [26, 25]⟩,
 ⟨some 134, some (133, true), .mv (.tmp 13), [27]⟩,
 ⟨some 135, none, .pick (.tmp 133) (.tmp 134) (.cst (.d (.bool false))), [27, 28]⟩,
 ⟨some 136, none, .mv (.tmp 135), [29, 27]⟩,
 ⟨some 137, some (136, true), .mv (.tmp 14), [30]⟩,
 ⟨some 138, none, .pick (.tmp 136) (.tmp 137) (.cst (.d (.bool false))), [30, 31]⟩,
 ⟨some 139, none, .mv (.tmp 138), [32, 30]⟩,
 ⟨some 140, some (139, true), .load true 2 (.tmp 15), [33]⟩,
 ⟨some 141, some (139, true), .call 60 [.cst (.d (.int .i64 (-200))), .cst (.d (.int .i64 9))], [33, 33]⟩,
 ⟨some 142, some (139, true), .aeq false 34 (.tmp 140) (.tmp 141), [34, 35, 33]⟩,
 ⟨some 143, none, .pick (.tmp 139) (.tmp 142) (.cst (.d (.bool false))), [33, 36]⟩,
 ⟨some 0, none, .mv (.tmp 143), [37, 35, 0, 1, 2, 3, 4, 5, 6, 7, 8, 9, 10, 11, 12, 13, 14, 15, 16, 17, 18, 19, 20, 21, 22, 23, 24, 25, 26, 27, 28, 29, 30, 31, 32, 33, 34, 35, 36, 37]⟩])
 (.ret))))))))))))),
 [.tmp 0]⟩
theorem c24 : trF Tryd.prog Tryd.f24 = some i24 := by kernel_rfl
def i25 : IFun := ⟨22, .seq (.reg false [⟨some 2, none, .box 25 (.tmp 0), []⟩,
 ⟨some 4, none, .mv (.cst (.d (.bool false))), []⟩,
 ⟨some 5, none, .mv (.cst (.d (.int .i64 0))), []⟩])
 (.seq (.reg true [⟨some 9, none, .load true 10 (.tmp 2), []⟩,
 ⟨some 10, none, .load true 10 (.tmp 2), []⟩,
 ⟨some 11, none, .mv (.tmp 1), []⟩,
 ⟨some 12, none, .call 68 [.tmp 10, .tmp 11], [1, 2]⟩,
 ⟨some 13, none, .call 67 [.tmp 9, .tmp 12], [0, 3, 3]⟩,
 ⟨some 8, none, .mv (.tmp 13), [4]⟩,
 ⟨some 14, none, .ext (.tmp 8) 0, [5]⟩,
 ⟨some 15, none, .ext (.tmp 8) 1, [5]⟩,
 ⟨some 6, none, .alloc 83 [.int .i64 0, .int .i64 0, .int .i64 0, .int .i64 0, .nilSl, .int .i64 0, .int .i64 0, .int .i64 0, .int .i64 0, .nilSl, .nilSl, .int .i64 0, .int .i64 0, .int .i64 0, .nilMap], []⟩,
 ⟨none, none, .store 15 (.tmp 6) (.tmp 14), [8, 6, 4, 0, 1, 2, 3, 4, 5, 6, 8]⟩,
 ⟨some 7, none, .mv (.tmp 15), [7, 9, 0, 1, 2, 3, 4, 5, 6, 7, 8, 9]⟩])
 (.seq (.seq (.reg false [⟨some 16, none, .mv (.tmp 7), []⟩,
 ⟨some 17, none, .bin .neq (.tmp 16) (.cst (.d (.int .i64 0))), []⟩])
 (.cond (.tmp 17) (.seq (.reg false [⟨some 18, none, .mv (.tmp 7), []⟩,
 ⟨some 4, none, .mv (.cst (.d (.bool false))), []⟩,
 ⟨some 5, none, .mv (.tmp 18), []⟩])
 (.ret)) (.skip)))
 (.seq (.reg false [⟨some 19, none, .load true 15 (.tmp 6), []⟩,
 ⟨some 20, none, .mv (.tmp 1), []⟩,
 ⟨some 21, none, .call 76 [.tmp 19, .tmp 20], []⟩,
 ⟨some 4, none, .mv (.tmp 21), []⟩,
 ⟨some 5, none, .mv (.cst (.d (.int .i64 0))), []⟩])
 (.ret)))),
 [.tmp 4, .tmp 5]⟩
theorem c25 : trF Tryd.prog Tryd.f25 = some i25 := by kernel_rfl
def i27 : IFun := ⟨28, .seq (.reg false [⟨some 1, none, .box 25 (.tmp 0), []⟩,
 ⟨some 2, none, .mv (.cst (.d (.int .i64 0))), []⟩,
 ⟨some 3, none, .mv (.cst (.d (.int .i64 0))), []⟩])
 (.seq (.reg false [⟨some 8, none, .load true 10 (.tmp 1), []⟩,
 ⟨some 9, none, .call 67 [.tmp 8, .cst (.d (.bool true))], []⟩,
 ⟨some 7, none, .mv (.tmp 9), []⟩,
 ⟨some 10, none, .ext (.tmp 7) 0, []⟩,
 ⟨some 11, none, .ext (.tmp 7) 1, []⟩,
 ⟨some 4, none, .alloc 83 [.int .i64 0, .int .i64 0, .int .i64 0, .int .i64 0, .nilSl, .int .i64 0, .int .i64 0, .int .i64 0, .int .i64 0, .nilSl, .nilSl, .int .i64 0, .int .i64 0, .int .i64 0, .nilMap], []⟩,
 ⟨none, none, .store 15 (.tmp 4) (.tmp 10), []⟩,
 ⟨some 5, none, .mv (.tmp 11), []⟩])
 (.seq (.seq (.reg false [⟨some 12, none, .mv (.tmp 5), []⟩,
 ⟨some 13, none, .bin .neq (.tmp 12) (.cst (.d (.int .i64 0))), []⟩])
 (.cond (.tmp 13) (.seq (.reg false [⟨some 14, none, .mv (.tmp 5), []⟩,
 ⟨some 2, none, .mv (.cst (.d (.int .i64 0))), []⟩,
 ⟨some 3, none, .mv (.tmp 14), []⟩])
 (.ret)) (.skip)))
 (.seq (.seq (.reg false [⟨some 15, none, .faddr 8 (.tmp 1), []⟩,
 ⟨some 16, none, .load false 1 (.tmp 15), []⟩,
 ⟨some 17, none, .mv (.cst (.d (.int .i64 0))), []⟩])
 (.block 0 (.loop (.seq (.reg false [⟨some 18, none, .bin .lss (.tmp 17) (.tmp 16), []⟩])
 (.seq (.cond (.tmp 18) (.skip) (.exit 0))
 (.seq (.block 1 (.seq (.reg false [⟨some 19, none, .mv (.tmp 17), []⟩,
 ⟨some 6, none, .mv (.tmp 19), []⟩])
 (.seq (.reg false [⟨some 20, none, .load true 15 (.tmp 4), []⟩,
 ⟨some 21, none, .mv (.tmp 6), []⟩,
 ⟨some 22, none, .bin .add (.tmp 21) (.cst (.d (.int .i64 1))), []⟩,
 ⟨some 23, none, .call 76 [.tmp 20, .tmp 22], []⟩,
 ⟨some 24, none, .un .not (.tmp 23), []⟩])
 (.cond (.tmp 24) (.seq (.reg false [⟨some 25, none, .mv (.tmp 6), []⟩,
 ⟨some 26, none, .bin .add (.tmp 25) (.cst (.d (.int .i64 1))), []⟩,
 ⟨some 2, none, .mv (.tmp 26), []⟩,
 ⟨some 3, none, .mv (.cst (.d (.int .i64 0))), []⟩])
 (.ret)) (.skip)))))
 (.reg false [⟨some 27, none, .bin .add (.tmp 17) (.cst (.d (.int .i64 1))), []⟩,
 ⟨some 17, none, .mv (.tmp 27), []⟩])))))))
 (.seq (.reg false [⟨some 2, none, .mv (.cst (.d (.int .i64 0))), []⟩,
 ⟨some 3, none, .mv (.cst (.d (.int .i64 4))), []⟩])
 (.ret))))),
 [.tmp 2, .tmp 3]⟩
theorem c27 : trF Tryd.prog Tryd.f27 = some i27 := by kernel_rfl
def i29 : IFun := ⟨65, .seq (.reg false [⟨some 2, none, .box 25 (.tmp 0), []⟩,
 ⟨some 4, none, .alloc 42 [.int .i64 0, .int .i64 0], []⟩,
 ⟨some 5, none, .mv (.cst (.d (.int .i64 0))), []⟩])
 (.seq (.reg true [⟨some 12, none, .load true 10 (.tmp 2), []⟩,
 ⟨some 13, none, .load true 10 (.tmp 2), []⟩,
 ⟨some 14, none, .mv (.tmp 1), []⟩,
 ⟨some 15, none, .call 68 [.tmp 13, .tmp 14], [1, 2]⟩,
 ⟨some 16, none, .call 67 [.tmp 12, .tmp 15], [0, 3, 3]⟩,
 ⟨some 11, none, .mv (.tmp 16), [4]⟩,
 ⟨some 17, none, .ext (.tmp 11) 0, [5]⟩,
 ⟨some 18, none, .ext (.tmp 11) 1, [5]⟩,
 ⟨some 6, none, .alloc 83 [.int .i64 0, .int .i64 0, .int .i64 0, .int .i64 0, .nilSl, .int .i64 0, .int .i64 0, .int .i64 0, .int .i64 0, .nilSl, .nilSl, .int .i64 0, .int .i64 0, .int .i64 0, .nilMap], []⟩,
 ⟨none, none, .store 15 (.tmp 6) (.tmp 17), [8, 6, 4, 0, 1, 2, 3, 4, 5, 6, 8]⟩,
 ⟨some 7, none, .mv (.tmp 18), [7, 9, 0, 1, 2, 3, 4, 5, 6, 7, 8, 9]⟩])
 (.seq (.seq (.reg false [⟨some 19, none, .mv (.tmp 7), []⟩,
 ⟨some 20, none, .bin .neq (.tmp 19) (.cst (.d (.int .i64 0))), []⟩])
 (.cond (.tmp 20) (.seq (.reg false [⟨some 21, none, .build [.int .i64 0, .int .i64 0] [], []⟩,
 ⟨some 22, none, .mv (.tmp 7), []⟩,
 ⟨none, none, .store 2 (.tmp 4) (.tmp 21), []⟩,
 ⟨some 5, none, .mv (.tmp 22), []⟩])
 (.ret)) (.skip)))
 (.seq (.seq (.reg false [⟨some 23, none, .load true 15 (.tmp 6), []⟩,
 ⟨some 24, none, .mv (.tmp 1), []⟩,
 ⟨some 25, none, .build [.int .i64 0, .int .i64 0] [(0, 1, .tmp 24), (1, 1, .cst (.d (.int .i64 0)))], []⟩,
 ⟨some 26, none, .call 73 [.tmp 23, .tmp 25], []⟩,
 ⟨some 27, none, .fld false 0 1 (.tmp 26), []⟩,
 ⟨some 28, none, .bin .lss (.tmp 27) (.cst (.d (.int .i64 0))), []⟩])
 (.cond (.tmp 28) (.seq (.reg false [⟨some 29, none, .build [.int .i64 0, .int .i64 0] [], []⟩,
 ⟨none, none, .store 2 (.tmp 4) (.tmp 29), []⟩,
 ⟨some 5, none, .mv (.cst (.d (.int .i64 4))), []⟩])
 (.ret)) (.skip)))
 (.seq (.reg false [⟨some 8, none, .alloc 42 [.int .i64 0, .int .i64 0], []⟩])
 (.seq (.seq (.reg false [⟨some 30, none, .faddr 7 (.tmp 2), []⟩,
 ⟨some 31, none, .load false 1 (.tmp 30), []⟩,
 ⟨some 32, none, .bin .add (.tmp 31) (.cst (.d (.int .i64 1))), []⟩,
 ⟨some 33, none, .mv (.cst (.d (.int .i64 0))), []⟩])
 (.block 0 (.loop (.seq (.reg false [⟨some 34, none, .bin .lss (.tmp 33) (.tmp 32), []⟩])
 (.seq (.cond (.tmp 34) (.skip) (.exit 0))
 (.seq (.block 1 (.seq (.reg false [⟨some 35, none, .mv (.tmp 33), []⟩,
 ⟨some 9, none, .mv (.tmp 35), []⟩])
 (.seq (.seq (.reg false [⟨some 36, none, .load true 15 (.tmp 6), []⟩,
 ⟨some 37, none, .mv (.tmp 1), []⟩,
 ⟨some 38, none, .mv (.tmp 9), []⟩,
 ⟨some 39, none, .un .neg (.tmp 38), []⟩,
 ⟨some 40, none, .build [.int .i64 0, .int .i64 0] [(0, 1, .tmp 37), (1, 1, .tmp 39)], []⟩,
 ⟨some 41, none, .call 73 [.tmp 36, .tmp 40], []⟩,
 ⟨some 42, none, .fld false 0 1 (.tmp 41), []⟩,
 ⟨some 43, none, .bin .lss (.tmp 42) (.cst (.d (.int .i64 0))), []⟩])
 (.cond (.tmp 43) (.exit 0) (.skip)))
 (.reg false [⟨some 44, none, .mv (.tmp 9), []⟩,
 ⟨some 45, none, .un .neg (.tmp 44), []⟩,
 ⟨some 46, none, .faddr 0 (.tmp 8), []⟩,
 ⟨none, none, .store 1 (.tmp 46) (.tmp 45), []⟩]))))
 (.reg false [⟨some 47, none, .bin .add (.tmp 33) (.cst (.d (.int .i64 1))), []⟩,
 ⟨some 33, none, .mv (.tmp 47), []⟩])))))))
 (.seq (.seq (.reg false [⟨some 48, none, .faddr 7 (.tmp 2), []⟩,
 ⟨some 49, none, .load false 1 (.tmp 48), []⟩,
 ⟨some 50, none, .bin .add (.tmp 49) (.cst (.d (.int .i64 1))), []⟩,
 ⟨some 51, none, .mv (.cst (.d (.int .i64 0))), []⟩])
 (.block 2 (.loop (.seq (.reg false [⟨some 52, none, .bin .lss (.tmp 51) (.tmp 50), []⟩])
 (.seq (.cond (.tmp 52) (.skip) (.exit 2))
 (.seq (.block 3 (.seq (.reg false [⟨some 53, none, .mv (.tmp 51), []⟩,
 ⟨some 10, none, .mv (.tmp 53), []⟩])
 (.seq (.seq (.reg false [⟨some 54, none, .load true 15 (.tmp 6), []⟩,
 ⟨some 55, none, .mv (.tmp 1), []⟩,
 ⟨some 56, none, .mv (.tmp 10), []⟩,
 ⟨some 57, none, .build [.int .i64 0, .int .i64 0] [(0, 1, .tmp 55), (1, 1, .tmp 56)], []⟩,
 ⟨some 58, none, .call 73 [.tmp 54, .tmp 57], []⟩,
 ⟨some 59, none, .fld false 0 1 (.tmp 58), []⟩,
 ⟨some 60, none, .bin .lss (.tmp 59) (.cst (.d (.int .i64 0))), []⟩])
 (.cond (.tmp 60) (.exit 2) (.skip)))
 (.reg false [⟨some 61, none, .mv (.tmp 10), []⟩,
 ⟨some 62, none, .faddr 1 (.tmp 8), []⟩,
 ⟨none, none, .store 1 (.tmp 62) (.tmp 61), []⟩]))))
 (.reg false [⟨some 63, none, .bin .add (.tmp 51) (.cst (.d (.int .i64 1))), []⟩,
 ⟨some 51, none, .mv (.tmp 63), []⟩])))))))
 (.seq (.reg false [⟨some 64, none, .load true 2 (.tmp 8), []⟩,
 ⟨none, none, .store 2 (.tmp 4) (.tmp 64), []⟩,
 ⟨some 5, none, .mv (.cst (.d (.int .i64 0))), []⟩])
 (.ret)))))))),
 [.cell true 2 4, .tmp 5]⟩
theorem c29 : trF Tryd.prog Tryd.f29 = some i29 := by kernel_rfl
def i31 : IFun := ⟨32, .seq (.reg false [⟨some 2, none, .box 25 (.tmp 0), []⟩,
 ⟨some 4, none, .mv (.cst (.d (.int .i64 0))), []⟩,
 ⟨some 5, none, .mv (.cst (.d (.int .i64 0))), []⟩])
 (.seq (.reg true [⟨some 10, none, .load true 10 (.tmp 2), []⟩,
 ⟨some 11, none, .mv (.tmp 1), []⟩,
 ⟨some 12, none, .call 63 [.tmp 11, .cst (.d (.int .i64 (-60))), .cst (.d (.int .i64 60))], [1]⟩,
 ⟨some 13, none, .call 67 [.tmp 10, .tmp 12], [0, 2, 2]⟩,
 ⟨some 9, none, .mv (.tmp 13), [3]⟩,
 ⟨some 14, none, .ext (.tmp 9) 0, [4]⟩,
 ⟨some 15, none, .ext (.tmp 9) 1, [4]⟩,
 ⟨some 6, none, .alloc 83 [.int .i64 0, .int .i64 0, .int .i64 0, .int .i64 0, .nilSl, .int .i64 0, .int .i64 0, .int .i64 0, .int .i64 0, .nilSl, .nilSl, .int .i64 0, .int .i64 0, .int .i64 0, .nilMap], []⟩,
 ⟨none, none, .store 15 (.tmp 6) (.tmp 14), [7, 5, 3, 0, 1, 2, 3, 4, 5, 7]⟩,
 ⟨some 7, none, .mv (.tmp 15), [6, 8, 0, 1, 2, 3, 4, 5, 6, 7, 8]⟩])
 (.seq (.seq (.reg false [⟨some 16, none, .mv (.tmp 7), []⟩,
 ⟨some 17, none, .bin .neq (.tmp 16) (.cst (.d (.int .i64 0))), []⟩])
 (.cond (.tmp 17) (.seq (.reg false [⟨some 18, none, .mv (.tmp 7), []⟩,
 ⟨some 4, none, .mv (.cst (.d (.int .i64 0))), []⟩,
 ⟨some 5, none, .mv (.tmp 18), []⟩])
 (.ret)) (.skip)))
 (.seq (.seq (.reg false [⟨some 19, none, .mv (.cst (.d (.int .i64 0))), []⟩])
 (.block 0 (.loop (.seq (.reg false [⟨some 20, none, .bin .lss (.tmp 19) (.cst (.d (.int .i64 100))), []⟩])
 (.seq (.cond (.tmp 20) (.skip) (.exit 0))
 (.seq (.block 1 (.seq (.reg false [⟨some 21, none, .mv (.tmp 19), []⟩,
 ⟨some 8, none, .mv (.tmp 21), []⟩])
 (.seq (.reg false [⟨some 22, none, .load true 15 (.tmp 6), []⟩,
 ⟨some 23, none, .mv (.tmp 8), []⟩,
 ⟨some 24, none, .mv (.tmp 8), []⟩,
 ⟨some 25, none, .mv (.tmp 1), []⟩,
 ⟨some 26, none, .bin .mul (.tmp 24) (.tmp 25), []⟩,
 ⟨some 27, none, .build [.int .i64 0, .int .i64 0, .int .i64 0] [(0, 1, .tmp 23), (1, 1, .tmp 26), (2, 1, .cst (.d (.int .i64 0)))], []⟩,
 ⟨some 28, none, .call 80 [.tmp 22, .tmp 27, .cst (.d (.int .i64 0))], []⟩,
 ⟨some 29, none, .call 81 [.tmp 28], []⟩])
 (.cond (.tmp 29) (.seq (.reg false [⟨some 30, none, .mv (.tmp 8), []⟩,
 ⟨some 4, none, .mv (.tmp 30), []⟩,
 ⟨some 5, none, .mv (.cst (.d (.int .i64 0))), []⟩])
 (.ret)) (.skip)))))
 (.reg false [⟨some 31, none, .bin .add (.tmp 19) (.cst (.d (.int .i64 1))), []⟩,
 ⟨some 19, none, .mv (.tmp 31), []⟩])))))))
 (.seq (.reg false [⟨some 4, none, .mv (.cst (.d (.int .i64 0))), []⟩,
 ⟨some 5, none, .mv (.cst (.d (.int .i64 4))), []⟩])
 (.ret))))),
 [.tmp 4, .tmp 5]⟩
theorem c31 : trF Tryd.prog Tryd.f31 = some i31 := by kernel_rfl
def i33 : IFun := ⟨25, .seq (.reg false [⟨some 1, none, .box 25 (.tmp 0), []⟩,
 ⟨some 2, none, .mv (.cst (.d (.int .i64 0))), []⟩,
 ⟨some 3, none, .mv (.cst (.d (.int .i64 0))), []⟩])
 (.seq (.reg false [⟨some 8, none, .load true 10 (.tmp 1), []⟩,
 ⟨some 9, none, .call 67 [.tmp 8, .cst (.d (.bool true))], []⟩,
 ⟨some 7, none, .mv (.tmp 9), []⟩,
 ⟨some 10, none, .ext (.tmp 7) 0, []⟩,
 ⟨some 11, none, .ext (.tmp 7) 1, []⟩,
 ⟨some 4, none, .alloc 83 [.int .i64 0, .int .i64 0, .int .i64 0, .int .i64 0, .nilSl, .int .i64 0, .int .i64 0, .int .i64 0, .int .i64 0, .nilSl, .nilSl, .int .i64 0, .int .i64 0, .int .i64 0, .nilMap], []⟩,
 ⟨none, none, .store 15 (.tmp 4) (.tmp 10), []⟩,
 ⟨some 5, none, .mv (.tmp 11), []⟩])
 (.seq (.seq (.reg false [⟨some 12, none, .mv (.tmp 5), []⟩,
 ⟨some 13, none, .bin .neq (.tmp 12) (.cst (.d (.int .i64 0))), []⟩])
 (.cond (.tmp 13) (.seq (.reg false [⟨some 14, none, .mv (.tmp 5), []⟩,
 ⟨some 2, none, .mv (.cst (.d (.int .i64 0))), []⟩,
 ⟨some 3, none, .mv (.tmp 14), []⟩])
 (.ret)) (.skip)))
 (.seq (.seq (.reg false [⟨some 15, none, .mv (.cst (.d (.int .i64 0))), []⟩])
 (.block 0 (.loop (.seq (.reg false [⟨some 16, none, .bin .lss (.tmp 15) (.cst (.d (.int .i64 21))), []⟩])
 (.seq (.cond (.tmp 16) (.skip) (.exit 0))
 (.seq (.block 1 (.seq (.reg false [⟨some 17, none, .mv (.tmp 15), []⟩,
 ⟨some 6, none, .mv (.tmp 17), []⟩])
 (.seq (.reg false [⟨some 18, none, .load true 15 (.tmp 4), []⟩,
 ⟨some 19, none, .build [.int .i64 0, .int .i64 0, .int .i64 0] [], []⟩,
 ⟨some 20, none, .mv (.tmp 6), []⟩,
 ⟨some 21, none, .call 80 [.tmp 18, .tmp 19, .tmp 20], []⟩,
 ⟨some 22, none, .call 81 [.tmp 21], []⟩])
 (.cond (.tmp 22) (.seq (.reg false [⟨some 23, none, .mv (.tmp 6), []⟩,
 ⟨some 2, none, .mv (.tmp 23), []⟩,
 ⟨some 3, none, .mv (.cst (.d (.int .i64 0))), []⟩])
 (.ret)) (.skip)))))
 (.reg false [⟨some 24, none, .bin .add (.tmp 15) (.cst (.d (.int .i64 1))), []⟩,
 ⟨some 15, none, .mv (.tmp 24), []⟩])))))))
 (.seq (.reg false [⟨some 2, none, .mv (.cst (.d (.int .i64 0))), []⟩,
 ⟨some 3, none, .mv (.cst (.d (.int .i64 4))), []⟩])
 (.ret))))),
 [.tmp 2, .tmp 3]⟩
theorem c33 : trF Tryd.prog Tryd.f33 = some i33 := by kernel_rfl
def i35 : IFun := ⟨39, .seq (.reg false [⟨some 1, none, .box 25 (.tmp 0), []⟩,
 ⟨some 2, none, .mv (.cst (.d (.nilSl))), []⟩,
 ⟨some 3, none, .mv (.cst (.d (.int .i64 0))), []⟩])
 (.seq (.seq (.reg false [⟨some 10, none, .load true 10 (.tmp 1), []⟩,
 ⟨some 11, none, .call 18 [.tmp 10], []⟩,
 ⟨some 4, none, .mv (.tmp 11), []⟩])
 (.seq (.reg false [⟨some 12, none, .mv (.tmp 4), []⟩,
 ⟨some 13, none, .bin .neq (.tmp 12) (.cst (.d (.int .i64 0))), []⟩])
 (.cond (.tmp 13) (.seq (.reg false [⟨some 14, none, .mv (.tmp 4), []⟩,
 ⟨some 2, none, .mv (.cst (.d (.nilSl))), []⟩,
 ⟨some 3, none, .mv (.tmp 14), []⟩])
 (.ret)) (.skip))))
 (.seq (.reg false [⟨some 15, none, .load true 10 (.tmp 1), []⟩,
 ⟨some 16, none, .build [.int .i64 0, .int .i64 0, .int .i64 0, .int .i64 0, .nilSl, .int .i64 0, .int .i64 0, .int .i64 0, .int .i64 0, .nilSl, .nilSl, .int .i64 0, .int .i64 0, .int .i64 0, .nilMap] [(0, 10, .tmp 15)], []⟩,
 ⟨some 5, none, .alloc 83 [.int .i64 0, .int .i64 0, .int .i64 0, .int .i64 0, .nilSl, .int .i64 0, .int .i64 0, .int .i64 0, .int .i64 0, .nilSl, .nilSl, .int .i64 0, .int .i64 0, .int .i64 0, .nilMap], []⟩,
 ⟨none, none, .store 15 (.tmp 5) (.tmp 16), []⟩])
 (.seq (.reg false [⟨some 6, none, .alloc 105 [.nilFn], []⟩])
 (.seq (.reg false [⟨some 17, none, .mkf 83 [] [.tmp 5, .tmp 1, .tmp 6], []⟩,
 ⟨none, none, .store 1 (.tmp 6) (.tmp 17), []⟩])
 (.seq (.seq (.reg false [⟨some 18, none, .faddr 9 (.tmp 1), []⟩,
 ⟨some 19, none, .load false 1 (.tmp 18), []⟩,
 ⟨some 20, none, .len (.tmp 19), []⟩,
 ⟨some 21, none, .bin .add (.tmp 20) (.cst (.d (.int .i64 1))), []⟩,
 ⟨some 22, none, .mv (.cst (.d (.int .i64 0))), []⟩])
 (.block 0 (.loop (.seq (.reg false [⟨some 23, none, .bin .lss (.tmp 22) (.tmp 21), []⟩])
 (.seq (.cond (.tmp 23) (.skip) (.exit 0))
 (.seq (.block 1 (.seq (.reg false [⟨some 24, none, .mv (.tmp 22), []⟩,
 ⟨some 7, none, .mv (.tmp 24), []⟩])
 (.seq (.reg false [⟨some 26, none, .load false 1 (.tmp 6), []⟩,
 ⟨some 27, none, .mv (.tmp 7), []⟩,
 ⟨some 28, none, .callv (.tmp 26) [.cst (.d (.nilSl)), .tmp 27], []⟩,
 ⟨some 25, none, .mv (.tmp 28), []⟩,
 ⟨some 29, none, .ext (.tmp 25) 0, []⟩,
 ⟨some 30, none, .ext (.tmp 25) 1, []⟩,
 ⟨some 8, none, .mv (.tmp 29), []⟩,
 ⟨some 9, none, .mv (.tmp 30), []⟩])
 (.seq (.reg false [⟨some 31, none, .mv (.tmp 9), []⟩])
 (.cond (.tmp 31) (.seq (.reg false [⟨some 32, none, .mv (.tmp 8), []⟩,
 ⟨some 33, none, .mv (.tmp 8), []⟩,
 ⟨some 34, none, .len (.tmp 33), []⟩,
 ⟨some 35, none, .mv (.tmp 8), []⟩,
 ⟨some 36, none, .len (.tmp 35), []⟩,
 ⟨some 37, none, .slc 1 (.tmp 32) none (some (.tmp 34)) (some (.tmp 36)), []⟩,
 ⟨some 2, none, .mv (.tmp 37), []⟩,
 ⟨some 3, none, .mv (.cst (.d (.int .i64 0))), []⟩])
 (.ret)) (.skip))))))
 (.reg false [⟨some 38, none, .bin .add (.tmp 22) (.cst (.d (.int .i64 1))), []⟩,
 ⟨some 22, none, .mv (.tmp 38), []⟩])))))))
 (.seq (.reg false [⟨some 2, none, .mv (.cst (.d (.nilSl))), []⟩,
 ⟨some 3, none, .mv (.cst (.d (.int .i64 0))), []⟩])
 (.ret))))))),
 [.tmp 2, .tmp 3]⟩
theorem c35 : trF Tryd.prog Tryd.f35 = some i35 := by kernel_rfl
def i37 : IFun := ⟨31, .seq (.reg false [⟨some 4, none, .mv (.cst (.d (.bool false))), []⟩])
 (.seq (.reg false [⟨some 7, none, .mv (.tmp 0), []⟩,
 ⟨some 8, none, .len (.tmp 7), []⟩,
 ⟨some 9, none, .mv (.tmp 1), []⟩,
 ⟨some 10, none, .len (.tmp 9), []⟩,
 ⟨some 11, none, .bin .eql (.tmp 8) (.tmp 10), []⟩,
 ⟨some 5, none, .mv (.tmp 11), []⟩])
 (.seq (.seq (.reg false [⟨some 6, none, .mv (.cst (.d (.int .i64 0))), []⟩])
 (.block 0 (.loop (.seq (.seq (.reg false [⟨some 12, none, .mv (.tmp 5), []⟩,
 ⟨some 13, none, .mv (.tmp 12), []⟩,
 ⟨some 14, some (13, true), .mv (.tmp 6), []⟩,
 ⟨some 15, some (13, true), .mv (.tmp 0), []⟩,
 ⟨some 16, some (13, true), .len (.tmp 15), []⟩,
 ⟨some 17, some (13, true), .bin .lss (.tmp 14) (.tmp 16), []⟩,
 ⟨some 18, none, .pick (.tmp 13) (.tmp 17) (.cst (.d (.bool false))), []⟩])
 (.cond (.tmp 18) (.skip) (.exit 0)))
 (.seq (.block 1 (.reg true [⟨some 21, none, .mv (.tmp 0), []⟩,
 ⟨some 22, none, .mv (.tmp 6), []⟩,
 ⟨some 23, none, .iaS 1 (.tmp 21) (.tmp 22), [0, 1]⟩,
 ⟨some 24, none, .load false 1 (.tmp 23), [2]⟩,
 ⟨some 25, none, .mv (.tmp 1), []⟩,
 ⟨some 26, none, .mv (.tmp 6), []⟩,
 ⟨some 27, none, .iaS 1 (.tmp 25) (.tmp 26), [4, 5]⟩,
 ⟨some 28, none, .load false 1 (.tmp 27), [6]⟩,
 ⟨some 29, none, .bin .eql (.tmp 24) (.tmp 28), [3, 7]⟩,
 ⟨some 5, none, .mv (.tmp 29), [8, 0, 1, 2, 3, 4, 5, 6, 7, 8]⟩]))
 (.reg false [⟨some 19, none, .mv (.tmp 6), []⟩,
 ⟨some 20, none, .bin .add (.tmp 19) (.cst (.d (.int .i64 1))), []⟩,
 ⟨some 6, none, .mv (.tmp 20), []⟩]))))))
 (.seq (.reg false [⟨some 30, none, .mv (.tmp 5), []⟩,
 ⟨some 4, none, .mv (.tmp 30), []⟩])
 (.ret)))),
 [.tmp 4]⟩
theorem c37 : trF Tryd.prog Tryd.f37 = some i37 := by kernel_rfl
def i43 : IFun := ⟨15, .seq (.reg false [⟨some 6, none, .mv (.cst (.d (.bool false))), []⟩])
 (.seq (.reg false [⟨some 7, none, .mv (.tmp 1), []⟩,
 ⟨some 8, none, .mv (.tmp 0), []⟩,
 ⟨some 9, none, .bin .leq (.tmp 7) (.tmp 8), []⟩,
 ⟨some 10, none, .mv (.tmp 9), []⟩,
 ⟨some 11, some (10, true), .mv (.tmp 0), []⟩,
 ⟨some 12, some (10, true), .mv (.tmp 2), []⟩,
 ⟨some 13, some (10, true), .bin .leq (.tmp 11) (.tmp 12), []⟩,
 ⟨some 14, none, .pick (.tmp 10) (.tmp 13) (.cst (.d (.bool false))), []⟩,
 ⟨some 6, none, .mv (.tmp 14), []⟩])
 (.ret)),
 [.tmp 6]⟩
theorem c43 : trF Tryd.prog Tryd.f43 = some i43 := by kernel_rfl
def i46 : IFun := ⟨8, .seq (.reg false [⟨some 4, none, .alloc 42 [.int .i64 0, .int .i64 0], []⟩])
 (.seq (.reg false [⟨some 5, none, .mv (.tmp 0), []⟩,
 ⟨some 6, none, .mv (.tmp 1), []⟩,
 ⟨some 7, none, .build [.int .i64 0, .int .i64 0] [(0, 1, .tmp 5), (1, 1, .tmp 6)], []⟩,
 ⟨none, none, .store 2 (.tmp 4) (.tmp 7), []⟩])
 (.ret)),
 [.cell true 2 4]⟩
theorem c46 : trF Tryd.prog Tryd.f46 = some i46 := by kernel_rfl
def i47 : IFun := ⟨11, .seq (.reg false [⟨some 6, none, .alloc 65 [.int .i64 0, .int .i64 0, .bool false], []⟩])
 (.seq (.reg false [⟨some 7, none, .mv (.tmp 0), []⟩,
 ⟨some 8, none, .mv (.tmp 1), []⟩,
 ⟨some 9, none, .mv (.tmp 2), []⟩,
 ⟨some 10, none, .build [.int .i64 0, .int .i64 0, .bool false] [(0, 1, .tmp 7), (1, 1, .tmp 8), (2, 1, .tmp 9)], []⟩,
 ⟨none, none, .store 3 (.tmp 6) (.tmp 10), []⟩])
 (.ret)),
 [.cell true 3 6]⟩
theorem c47 : trF Tryd.prog Tryd.f47 = some i47 := by kernel_rfl
def i55 : IFun := ⟨2, .seq (.reg false [⟨some 0, none, .alloc 25 [.int .i64 0, .int .i64 0, .int .i64 0, .int .i64 0, .nilSl, .int .i64 0, .int .i64 0, .int .i64 0, .int .i64 0, .nilSl], []⟩])
 (.seq (.reg false [⟨some 1, none, .call 57 [.cst (.d (.nilSl))], []⟩,
 ⟨none, none, .store 10 (.tmp 0) (.tmp 1), []⟩])
 (.ret)),
 [.cell true 10 0]⟩
theorem c55 : trF Tryd.prog Tryd.f55 = some i55 := by kernel_rfl
def i56 : IFun := ⟨8, .seq (.reg false [⟨some 0, none, .alloc 25 [.int .i64 0, .int .i64 0, .int .i64 0, .int .i64 0, .nilSl, .int .i64 0, .int .i64 0, .int .i64 0, .int .i64 0, .nilSl], []⟩])
 (.seq (.reg false [⟨some 2, none, .call 55 [], []⟩,
 ⟨some 1, none, .alloc 25 [.int .i64 0, .int .i64 0, .int .i64 0, .int .i64 0, .nilSl, .int .i64 0, .int .i64 0, .int .i64 0, .int .i64 0, .nilSl], []⟩,
 ⟨none, none, .store 10 (.tmp 1) (.tmp 2), []⟩])
 (.seq (.reg false [⟨some 3, none, .faddr 0 (.tmp 1), []⟩,
 ⟨none, none, .store 1 (.tmp 3) (.cst (.d (.int .i64 1))), []⟩,
 ⟨some 4, none, .faddr 3 (.tmp 1), []⟩,
 ⟨none, none, .store 1 (.tmp 4) (.cst (.d (.int .i64 60))), []⟩,
 ⟨some 5, none, .faddr 1 (.tmp 1), []⟩,
 ⟨none, none, .store 1 (.tmp 5) (.cst (.d (.int .i64 12))), []⟩,
 ⟨some 6, none, .faddr 2 (.tmp 1), []⟩,
 ⟨none, none, .store 1 (.tmp 6) (.cst (.d (.int .i64 12))), []⟩])
 (.seq (.reg false [⟨some 7, none, .load true 10 (.tmp 1), []⟩,
 ⟨none, none, .store 10 (.tmp 0) (.tmp 7), []⟩])
 (.ret)))),
 [.cell true 10 0]⟩
theorem c56 : trF Tryd.prog Tryd.f56 = some i56 := by kernel_rfl
def i57 : IFun := ⟨10, .seq (.reg false [⟨some 2, none, .alloc 25 [.int .i64 0, .int .i64 0, .int .i64 0, .int .i64 0, .nilSl, .int .i64 0, .int .i64 0, .int .i64 0, .int .i64 0, .nilSl], []⟩])
 (.seq (.reg false [⟨some 3, none, .call 46 [.cst (.d (.int .i64 20)), .cst (.d (.int .i64 22))], []⟩,
 ⟨some 4, none, .build [.int .i64 0, .int .i64 0, .int .i64 0, .int .i64 0] [(0, 2, .tmp 3), (3, 1, .cst (.d (.int .i64 30)))], []⟩,
 ⟨some 5, none, .call 46 [.cst (.d (.int .i64 4)), .cst (.d (.int .i64 5))], []⟩,
 ⟨some 6, none, .build [.int .i64 0, .int .i64 0, .int .i64 0, .int .i64 0] [(0, 2, .tmp 5), (2, 1, .cst (.d (.int .i64 15))), (3, 1, .cst (.d (.int .i64 40)))], []⟩,
 ⟨some 7, none, .bsl 70 4 2 [.int .i64 0, .int .i64 0, .int .i64 0, .int .i64 0] [(0, 4, .tmp 4), (4, 4, .tmp 6)], []⟩,
 ⟨some 8, none, .mv (.tmp 0), []⟩,
 ⟨some 9, none, .build [.int .i64 0, .int .i64 0, .int .i64 0, .int .i64 0, .nilSl, .int .i64 0, .int .i64 0, .int .i64 0, .int .i64 0, .nilSl] [(0, 1, .cst (.d (.int .i64 0))), (1, 1, .cst (.d (.int .i64 10))), (2, 1, .cst (.d (.int .i64 4))), (4, 1, .tmp 7), (5, 1, .cst (.d (.int .i64 (-4)))), (6, 1, .cst (.d (.int .i64 36))), (7, 1, .cst (.d (.int .i64 8))), (8, 1, .cst (.d (.int .i64 30))), (9, 1, .tmp 8)], []⟩,
 ⟨none, none, .store 10 (.tmp 2) (.tmp 9), []⟩])
 (.ret)),
 [.cell true 10 2]⟩
theorem c57 : trF Tryd.prog Tryd.f57 = some i57 := by kernel_rfl
def i58 : IFun := ⟨5, .seq (.reg false [⟨some 0, none, .alloc 25 [.int .i64 0, .int .i64 0, .int .i64 0, .int .i64 0, .nilSl, .int .i64 0, .int .i64 0, .int .i64 0, .int .i64 0, .nilSl], []⟩])
 (.seq (.reg false [⟨some 1, none, .call 47 [.cst (.d (.int .i64 21)), .cst (.d (.int .i64 (-8))), .cst (.d (.bool false))], []⟩,
 ⟨some 2, none, .call 47 [.cst (.d (.int .i64 20)), .cst (.d (.int .i64 (-8))), .cst (.d (.bool true))], []⟩,
 ⟨some 3, none, .bsl 65 3 2 [.int .i64 0, .int .i64 0, .bool false] [(0, 3, .tmp 1), (3, 3, .tmp 2)], []⟩,
 ⟨some 4, none, .call 57 [.tmp 3], []⟩,
 ⟨none, none, .store 10 (.tmp 0) (.tmp 4), []⟩])
 (.ret)),
 [.cell true 10 0]⟩
theorem c58 : trF Tryd.prog Tryd.f58 = some i58 := by kernel_rfl
def i59 : IFun := ⟨4, .seq (.reg false [⟨some 0, none, .alloc 25 [.int .i64 0, .int .i64 0, .int .i64 0, .int .i64 0, .nilSl, .int .i64 0, .int .i64 0, .int .i64 0, .int .i64 0, .nilSl], []⟩])
 (.seq (.reg false [⟨some 1, none, .call 47 [.cst (.d (.int .i64 21)), .cst (.d (.int .i64 (-8))), .cst (.d (.bool false))], []⟩,
 ⟨some 2, none, .bsl 65 3 1 [.int .i64 0, .int .i64 0, .bool false] [(0, 3, .tmp 1)], []⟩,
 ⟨some 3, none, .call 57 [.tmp 2], []⟩,
 ⟨none, none, .store 10 (.tmp 0) (.tmp 3), []⟩])
 (.ret)),
 [.cell true 10 0]⟩
theorem c59 : trF Tryd.prog Tryd.f59 = some i59 := by kernel_rfl
def i60 : IFun := ⟨8, .seq (.reg false [⟨some 4, none, .alloc 34 [.int .i64 0, .int .i64 0], []⟩])
 (.seq (.reg false [⟨some 5, none, .mv (.tmp 0), []⟩,
 ⟨some 6, none, .mv (.tmp 1), []⟩,
 ⟨some 7, none, .build [.int .i64 0, .int .i64 0] [(0, 1, .tmp 5), (1, 1, .tmp 6)], []⟩,
 ⟨none, none, .store 2 (.tmp 4) (.tmp 7), []⟩])
 (.ret)),
 [.cell true 2 4]⟩
theorem c60 : trF Tryd.prog Tryd.f60 = some i60 := by kernel_rfl
def i61 : IFun := ⟨21, .seq (.reg false [⟨some 1, none, .box 25 (.tmp 0), []⟩,
 ⟨some 2, none, .alloc 83 [.int .i64 0, .int .i64 0, .int .i64 0, .int .i64 0, .nilSl, .int .i64 0, .int .i64 0, .int .i64 0, .int .i64 0, .nilSl, .nilSl, .int .i64 0, .int .i64 0, .int .i64 0, .nilMap], []⟩])
 (.seq (.reg false [⟨some 5, none, .load true 10 (.tmp 1), []⟩,
 ⟨some 6, none, .mkmap, []⟩,
 ⟨some 7, none, .build [.int .i64 0, .int .i64 0, .int .i64 0, .int .i64 0, .nilSl, .int .i64 0, .int .i64 0, .int .i64 0, .int .i64 0, .nilSl, .nilSl, .int .i64 0, .int .i64 0, .int .i64 0, .nilMap] [(0, 10, .tmp 5), (14, 1, .tmp 6)], []⟩,
 ⟨some 3, none, .alloc 83 [.int .i64 0, .int .i64 0, .int .i64 0, .int .i64 0, .nilSl, .int .i64 0, .int .i64 0, .int .i64 0, .int .i64 0, .nilSl, .nilSl, .int .i64 0, .int .i64 0, .int .i64 0, .nilMap], []⟩,
 ⟨none, none, .store 15 (.tmp 3) (.tmp 7), []⟩])
 (.seq (.seq (.reg false [⟨some 8, none, .load true 15 (.tmp 3), []⟩,
 ⟨some 9, none, .call 84 [.tmp 8], []⟩])
 (.block 0 (.rfun (.tmp 9) [10] (.reg false [⟨some 4, none, .alloc 92 [.int .i64 0, .int .i64 0, .int .i64 0, .int .i64 0], []⟩,
 ⟨none, none, .store 4 (.tmp 4) (.tmp 10), []⟩]) (.block 1 (.seq (.reg false [⟨some 11, none, .load true 15 (.tmp 3), []⟩,
 ⟨some 12, none, .load true 4 (.tmp 4), []⟩,
 ⟨some 13, none, .call 85 [.tmp 11, .tmp 12, .cst (.d (.nilSl))], []⟩])
 (.cond (.tmp 13) (.reg false [⟨some 14, none, .faddr 10 (.tmp 3), []⟩,
 ⟨some 15, none, .load false 1 (.tmp 14), []⟩,
 ⟨some 16, none, .load true 4 (.tmp 4), []⟩,
 ⟨some 17, none, .bsl 92 4 1 [.int .i64 0, .int .i64 0, .int .i64 0, .int .i64 0] [(0, 4, .tmp 16)], []⟩,
 ⟨some 18, none, .app 92 4 32 (.tmp 15) (.tmp 17), []⟩,
 ⟨some 19, none, .faddr 10 (.tmp 3), []⟩,
 ⟨none, none, .store 1 (.tmp 19) (.tmp 18), []⟩]) (.skip)))))))
 (.seq (.reg false [⟨some 20, none, .load true 15 (.tmp 3), []⟩,
 ⟨none, none, .store 15 (.tmp 2) (.tmp 20), []⟩])
 (.ret)))),
 [.cell true 15 2]⟩
theorem c61 : trF Tryd.prog Tryd.f61 = some i61 := by kernel_rfl
def i62 : IFun := ⟨5, .seq (.reg false [⟨some 1, none, .box 25 (.tmp 0), []⟩,
 ⟨some 2, none, .mv (.cst (.d (.nilSl))), []⟩])
 (.seq (.reg false [⟨some 3, none, .load true 10 (.tmp 1), []⟩,
 ⟨some 4, none, .call 94 [.tmp 3, .cst (.d (.nilSl))], []⟩,
 ⟨some 2, none, .mv (.tmp 4), []⟩])
 (.ret)),
 [.tmp 2]⟩
theorem c62 : trF Tryd.prog Tryd.f62 = some i62 := by kernel_rfl
def i63 : IFun := ⟨15, .seq (.reg false [⟨some 6, none, .mv (.cst (.d (.bool false))), []⟩])
 (.seq (.reg false [⟨some 7, none, .mv (.tmp 1), []⟩,
 ⟨some 8, none, .mv (.tmp 0), []⟩,
 ⟨some 9, none, .bin .leq (.tmp 7) (.tmp 8), []⟩,
 ⟨some 10, none, .mv (.tmp 9), []⟩,
 ⟨some 11, some (10, true), .mv (.tmp 0), []⟩,
 ⟨some 12, some (10, true), .mv (.tmp 2), []⟩,
 ⟨some 13, some (10, true), .bin .leq (.tmp 11) (.tmp 12), []⟩,
 ⟨some 14, none, .pick (.tmp 10) (.tmp 13) (.cst (.d (.bool false))), []⟩,
 ⟨some 6, none, .mv (.tmp 14), []⟩])
 (.ret)),
 [.tmp 6]⟩
theorem c63 : trF Tryd.prog Tryd.f63 = some i63 := by kernel_rfl
def i64 : IFun := ⟨26, .seq (.reg false [⟨some 1, none, .box 70 (.tmp 0), []⟩,
 ⟨some 2, none, .mv (.cst (.d (.bool false))), []⟩])
 (.seq (.reg false [⟨some 3, none, .faddr 0 (.tmp 1), []⟩,
 ⟨some 4, none, .load true 2 (.tmp 3), []⟩,
 ⟨some 5, none, .call 87 [.tmp 4, .cst (.d (.int .i64 1)), .cst (.d (.int .i64 99))], []⟩,
 ⟨some 6, none, .mv (.tmp 5), []⟩,
 ⟨some 7, some (6, true), .faddr 0 (.tmp 1), []⟩,
 ⟨some 8, some (6, true), .faddr 1 (.tmp 7), []⟩,
 ⟨some 9, some (6, true), .load false 1 (.tmp 8), []⟩,
 ⟨some 10, some (6, true), .faddr 0 (.tmp 1), []⟩,
 ⟨some 11, some (6, true), .faddr 0 (.tmp 10), []⟩,
 ⟨some 12, some (6, true), .load false 1 (.tmp 11), []⟩,
 ⟨some 13, some (6, true), .bin .sub (.tmp 9) (.tmp 12), []⟩,
 ⟨some 14, some (6, true), .bin .leq (.tmp 13) (.cst (.d (.int .i64 4))), []⟩,
 ⟨some 15, none, .pick (.tmp 6) (.tmp 14) (.cst (.d (.bool false))), []⟩,
 ⟨some 16, none, .mv (.tmp 15), []⟩,
 ⟨some 17, some (16, true), .faddr 2 (.tmp 1), []⟩,
 ⟨some 18, some (16, true), .load false 1 (.tmp 17), []⟩,
 ⟨some 19, some (16, true), .call 43 [.tmp 18, .cst (.d (.int .i64 (-60))), .cst (.d (.int .i64 60))], []⟩,
 ⟨some 20, none, .pick (.tmp 16) (.tmp 19) (.cst (.d (.bool false))), []⟩,
 ⟨some 21, none, .mv (.tmp 20), []⟩,
 ⟨some 22, some (21, true), .faddr 3 (.tmp 1), []⟩,
 ⟨some 23, some (21, true), .load false 1 (.tmp 22), []⟩,
 ⟨some 24, some (21, true), .call 43 [.tmp 23, .cst (.d (.int .i64 0)), .cst (.d (.int .i64 60))], []⟩,
 ⟨some 25, none, .pick (.tmp 21) (.tmp 24) (.cst (.d (.bool false))), []⟩,
 ⟨some 2, none, .mv (.tmp 25), []⟩])
 (.ret)),
 [.tmp 2]⟩
theorem c64 : trF Tryd.prog Tryd.f64 = some i64 := by kernel_rfl
def i65 : IFun := ⟨9, .seq (.reg false [⟨some 2, none, .box 25 (.tmp 0), []⟩,
 ⟨some 4, none, .mv (.cst (.d (.bool false))), []⟩])
 (.seq (.reg false [⟨some 5, none, .mv (.tmp 1), []⟩,
 ⟨some 6, none, .faddr 8 (.tmp 2), []⟩,
 ⟨some 7, none, .load false 1 (.tmp 6), []⟩,
 ⟨some 8, none, .call 43 [.tmp 5, .cst (.d (.int .i64 1)), .tmp 7], []⟩,
 ⟨some 4, none, .mv (.tmp 8), []⟩])
 (.ret)),
 [.tmp 4]⟩
theorem c65 : trF Tryd.prog Tryd.f65 = some i65 := by kernel_rfl
def i66 : IFun := ⟨12, .seq (.reg false [⟨some 2, none, .box 25 (.tmp 0), []⟩,
 ⟨some 4, none, .mv (.cst (.d (.bool false))), []⟩])
 (.seq (.reg false [⟨some 5, none, .mv (.tmp 1), []⟩,
 ⟨some 6, none, .faddr 7 (.tmp 2), []⟩,
 ⟨some 7, none, .load false 1 (.tmp 6), []⟩,
 ⟨some 8, none, .un .neg (.tmp 7), []⟩,
 ⟨some 9, none, .faddr 7 (.tmp 2), []⟩,
 ⟨some 10, none, .load false 1 (.tmp 9), []⟩,
 ⟨some 11, none, .call 43 [.tmp 5, .tmp 8, .tmp 10], []⟩,
 ⟨some 4, none, .mv (.tmp 11), []⟩])
 (.ret)),
 [.tmp 4]⟩
theorem c66 : trF Tryd.prog Tryd.f66 = some i66 := by kernel_rfl
def i67 : IFun := ⟨25, .seq (.reg false [⟨some 2, none, .box 25 (.tmp 0), []⟩,
 ⟨some 4, none, .alloc 83 [.int .i64 0, .int .i64 0, .int .i64 0, .int .i64 0, .nilSl, .int .i64 0, .int .i64 0, .int .i64 0, .int .i64 0, .nilSl, .nilSl, .int .i64 0, .int .i64 0, .int .i64 0, .nilMap], []⟩,
 ⟨some 5, none, .mv (.cst (.d (.int .i64 0))), []⟩])
 (.seq (.seq (.reg false [⟨some 8, none, .load true 10 (.tmp 2), []⟩,
 ⟨some 9, none, .call 18 [.tmp 8], []⟩,
 ⟨some 6, none, .mv (.tmp 9), []⟩])
 (.seq (.reg false [⟨some 10, none, .mv (.tmp 6), []⟩,
 ⟨some 11, none, .bin .neq (.tmp 10) (.cst (.d (.int .i64 0))), []⟩])
 (.cond (.tmp 11) (.seq (.reg false [⟨some 12, none, .build [.int .i64 0, .int .i64 0, .int .i64 0, .int .i64 0, .nilSl, .int .i64 0, .int .i64 0, .int .i64 0, .int .i64 0, .nilSl, .nilSl, .int .i64 0, .int .i64 0, .int .i64 0, .nilMap] [], []⟩,
 ⟨some 13, none, .mv (.tmp 6), []⟩,
 ⟨none, none, .store 15 (.tmp 4) (.tmp 12), []⟩,
 ⟨some 5, none, .mv (.tmp 13), []⟩])
 (.ret)) (.skip))))
 (.seq (.seq (.reg false [⟨some 14, none, .mv (.tmp 1), []⟩,
 ⟨some 15, none, .un .not (.tmp 14), []⟩])
 (.cond (.tmp 15) (.seq (.reg false [⟨some 16, none, .build [.int .i64 0, .int .i64 0, .int .i64 0, .int .i64 0, .nilSl, .int .i64 0, .int .i64 0, .int .i64 0, .int .i64 0, .nilSl, .nilSl, .int .i64 0, .int .i64 0, .int .i64 0, .nilMap] [], []⟩,
 ⟨none, none, .store 15 (.tmp 4) (.tmp 16), []⟩,
 ⟨some 5, none, .mv (.cst (.d (.int .i64 21))), []⟩])
 (.ret)) (.skip)))
 (.seq (.reg false [⟨some 17, none, .load true 10 (.tmp 2), []⟩,
 ⟨some 18, none, .call 61 [.tmp 17], []⟩,
 ⟨some 7, none, .alloc 83 [.int .i64 0, .int .i64 0, .int .i64 0, .int .i64 0, .nilSl, .int .i64 0, .int .i64 0, .int .i64 0, .int .i64 0, .nilSl, .nilSl, .int .i64 0, .int .i64 0, .int .i64 0, .nilMap], []⟩,
 ⟨none, none, .store 15 (.tmp 7) (.tmp 18), []⟩])
 (.seq (.seq (.reg false [⟨some 19, none, .faddr 10 (.tmp 7), []⟩,
 ⟨some 20, none, .load false 1 (.tmp 19), []⟩,
 ⟨some 21, none, .len (.tmp 20), []⟩,
 ⟨some 22, none, .bin .eql (.tmp 21) (.cst (.d (.int .i64 0))), []⟩])
 (.cond (.tmp 22) (.seq (.reg false [⟨some 23, none, .load true 15 (.tmp 7), []⟩,
 ⟨none, none, .store 15 (.tmp 4) (.tmp 23), []⟩,
 ⟨some 5, none, .mv (.cst (.d (.int .i64 22))), []⟩])
 (.ret)) (.skip)))
 (.seq (.reg false [⟨some 24, none, .load true 15 (.tmp 7), []⟩,
 ⟨none, none, .store 15 (.tmp 4) (.tmp 24), []⟩,
 ⟨some 5, none, .mv (.cst (.d (.int .i64 0))), []⟩])
 (.ret)))))),
 [.cell true 15 4, .tmp 5]⟩
theorem c67 : trF Tryd.prog Tryd.f67 = some i67 := by kernel_rfl
def i68 : IFun := ⟨9, .seq (.reg false [⟨some 2, none, .box 25 (.tmp 0), []⟩,
 ⟨some 4, none, .mv (.cst (.d (.bool false))), []⟩])
 (.seq (.reg false [⟨some 5, none, .mv (.tmp 1), []⟩,
 ⟨some 6, none, .faddr 8 (.tmp 2), []⟩,
 ⟨some 7, none, .load false 1 (.tmp 6), []⟩,
 ⟨some 8, none, .call 63 [.tmp 5, .cst (.d (.int .i64 1)), .tmp 7], []⟩,
 ⟨some 4, none, .mv (.tmp 8), []⟩])
 (.ret)),
 [.tmp 4]⟩
theorem c68 : trF Tryd.prog Tryd.f68 = some i68 := by kernel_rfl
def i69 : IFun := ⟨12, .seq (.reg false [⟨some 2, none, .box 25 (.tmp 0), []⟩,
 ⟨some 4, none, .mv (.cst (.d (.bool false))), []⟩])
 (.seq (.reg false [⟨some 5, none, .mv (.tmp 1), []⟩,
 ⟨some 6, none, .faddr 7 (.tmp 2), []⟩,
 ⟨some 7, none, .load false 1 (.tmp 6), []⟩,
 ⟨some 8, none, .un .neg (.tmp 7), []⟩,
 ⟨some 9, none, .faddr 7 (.tmp 2), []⟩,
 ⟨some 10, none, .load false 1 (.tmp 9), []⟩,
 ⟨some 11, none, .call 63 [.tmp 5, .tmp 8, .tmp 10], []⟩,
 ⟨some 4, none, .mv (.tmp 11), []⟩])
 (.ret)),
 [.tmp 4]⟩
theorem c69 : trF Tryd.prog Tryd.f69 = some i69 := by kernel_rfl
def i70 : IFun := ⟨19, .seq (.reg false [⟨some 3, none, .box 83 (.tmp 0), []⟩,
 ⟨some 4, none, .box 92 (.tmp 1), []⟩,
 ⟨some 5, none, .box 94 (.tmp 2), []⟩,
 ⟨some 6, none, .mv (.cst (.d (.bool false))), []⟩])
 (.seq (.reg true [⟨some 7, none, .faddr 0 (.tmp 3), []⟩,
 ⟨some 8, none, .faddr 0 (.tmp 7), [0]⟩,
 ⟨some 9, none, .load false 1 (.tmp 8), [1]⟩,
 ⟨some 10, none, .iaA 2 1 (.glob 0) (.tmp 9), [2]⟩,
 ⟨some 11, none, .load false 1 (.tmp 10), [3]⟩,
 ⟨some 12, none, .load true 15 (.tmp 3), []⟩,
 ⟨some 13, none, .load true 15 (.tmp 3), []⟩,
 ⟨some 14, none, .load true 4 (.tmp 4), []⟩,
 ⟨some 15, none, .load true 2 (.tmp 5), []⟩,
 ⟨some 16, none, .call 95 [.tmp 13, .tmp 14, .tmp 15], [6, 7, 8]⟩,
 ⟨some 17, none, .callv (.tmp 11) [.tmp 12, .tmp 16], [4, 5, 9, 9]⟩,
 ⟨some 18, none, .bin .lss (.tmp 17) (.cst (.d (.int .i64 0))), [10]⟩,
 ⟨some 6, none, .mv (.tmp 18), [11, 10, 0, 1, 2, 3, 4, 5, 6, 7, 8, 9, 10, 11]⟩])
 (.ret)),
 [.tmp 6]⟩
theorem c70 : trF Tryd.prog Tryd.f70 = some i70 := by kernel_rfl
def i71 : IFun := ⟨21, .seq (.reg false [⟨some 2, none, .box 25 (.tmp 0), []⟩,
 ⟨some 4, none, .mv (.cst (.d (.nilSl))), []⟩,
 ⟨some 5, none, .mv (.cst (.d (.int .i64 0))), []⟩])
 (.seq (.seq (.reg false [⟨some 8, none, .load true 10 (.tmp 2), []⟩,
 ⟨some 9, none, .call 19 [.tmp 8], []⟩,
 ⟨some 6, none, .mv (.tmp 9), []⟩])
 (.seq (.reg false [⟨some 10, none, .mv (.tmp 6), []⟩,
 ⟨some 11, none, .bin .neq (.tmp 10) (.cst (.d (.int .i64 0))), []⟩])
 (.cond (.tmp 11) (.seq (.reg false [⟨some 12, none, .mv (.tmp 6), []⟩,
 ⟨some 4, none, .mv (.cst (.d (.nilSl))), []⟩,
 ⟨some 5, none, .mv (.tmp 12), []⟩])
 (.ret)) (.skip))))
 (.seq (.seq (.reg false [⟨some 13, none, .mv (.tmp 1), []⟩,
 ⟨some 14, none, .un .not (.tmp 13), []⟩])
 (.cond (.tmp 14) (.seq (.reg false [⟨some 4, none, .mv (.cst (.d (.nilSl))), []⟩,
 ⟨some 5, none, .mv (.cst (.d (.int .i64 21))), []⟩])
 (.ret)) (.skip)))
 (.seq (.reg false [⟨some 15, none, .load true 10 (.tmp 2), []⟩,
 ⟨some 16, none, .call 62 [.tmp 15], []⟩,
 ⟨some 7, none, .mv (.tmp 16), []⟩])
 (.seq (.seq (.reg false [⟨some 17, none, .mv (.tmp 7), []⟩,
 ⟨some 18, none, .len (.tmp 17), []⟩,
 ⟨some 19, none, .bin .eql (.tmp 18) (.cst (.d (.int .i64 0))), []⟩])
 (.cond (.tmp 19) (.seq (.reg false [⟨some 4, none, .mv (.cst (.d (.nilSl))), []⟩,
 ⟨some 5, none, .mv (.cst (.d (.int .i64 22))), []⟩])
 (.ret)) (.skip)))
 (.seq (.reg false [⟨some 20, none, .mv (.tmp 7), []⟩,
 ⟨some 4, none, .mv (.tmp 20), []⟩,
 ⟨some 5, none, .mv (.cst (.d (.int .i64 0))), []⟩])
 (.ret)))))),
 [.tmp 4, .tmp 5]⟩
theorem c71 : trF Tryd.prog Tryd.f71 = some i71 := by kernel_rfl
def i72 : IFun := ⟨21, .seq (.reg false [⟨some 4, none, .box 25 (.tmp 0), []⟩,
 ⟨some 8, none, .mv (.cst (.d (.bool false))), []⟩])
 (.seq (.reg false [⟨some 12, none, .load true 10 (.tmp 4), []⟩,
 ⟨some 13, none, .mv (.tmp 1), []⟩,
 ⟨some 14, none, .mv (.tmp 2), []⟩,
 ⟨some 15, none, .mv (.tmp 3), []⟩,
 ⟨some 16, none, .call 74 [.tmp 12, .tmp 13, .tmp 14, .tmp 15], []⟩,
 ⟨some 11, none, .mv (.tmp 16), []⟩,
 ⟨some 17, none, .ext (.tmp 11) 0, []⟩,
 ⟨some 18, none, .ext (.tmp 11) 1, []⟩,
 ⟨some 9, none, .mv (.tmp 17), []⟩,
 ⟨some 10, none, .mv (.tmp 18), []⟩])
 (.seq (.reg false [⟨some 19, none, .mv (.tmp 9), []⟩,
 ⟨some 20, none, .bin .lss (.tmp 19) (.cst (.d (.int .i64 0))), []⟩,
 ⟨some 8, none, .mv (.tmp 20), []⟩])
 (.ret))),
 [.tmp 8]⟩
theorem c72 : trF Tryd.prog Tryd.f72 = some i72 := by kernel_rfl
def i73 : IFun := ⟨66, .seq (.reg false [⟨some 2, none, .box 83 (.tmp 0), []⟩,
 ⟨some 3, none, .box 94 (.tmp 1), []⟩,
 ⟨some 4, none, .alloc 34 [.int .i64 0, .int .i64 0], []⟩])
 (.seq (.seq (.reg false [⟨some 14, none, .faddr 14 (.tmp 2), []⟩,
 ⟨some 15, none, .load false 1 (.tmp 14), []⟩,
 ⟨some 16, none, .load true 2 (.tmp 3), []⟩,
 ⟨some 17, none, .lookup 94 true [.int .i64 0, .int .i64 0] true (.tmp 15) (.tmp 16), []⟩,
 ⟨some 13, none, .mv (.tmp 17), []⟩,
 ⟨some 18, none, .ext (.tmp 13) 0, []⟩,
 ⟨some 19, none, .ext (.tmp 13) 1, []⟩,
 ⟨some 5, none, .alloc 34 [.int .i64 0, .int .i64 0], []⟩,
 ⟨none, none, .store 2 (.tmp 5) (.tmp 18), []⟩,
 ⟨some 6, none, .mv (.tmp 19), []⟩])
 (.seq (.reg false [⟨some 20, none, .mv (.tmp 6), []⟩])
 (.cond (.tmp 20) (.seq (.reg false [⟨some 21, none, .load true 2 (.tmp 5), []⟩,
 ⟨none, none, .store 2 (.tmp 4) (.tmp 21), []⟩])
 (.ret)) (.skip))))
 (.seq (.reg false [⟨some 7, none, .alloc 34 [.int .i64 0, .int .i64 0], []⟩])
 (.seq (.reg false [⟨some 22, none, .call 96 [], []⟩,
 ⟨some 8, none, .alloc 123 [.nilFn], []⟩,
 ⟨none, none, .store 1 (.tmp 8) (.tmp 22), []⟩])
 (.seq (.seq (.reg false [⟨some 23, none, .faddr 10 (.tmp 2), []⟩,
 ⟨some 24, none, .load false 1 (.tmp 23), []⟩,
 ⟨some 25, none, .len (.tmp 24), []⟩,
 ⟨some 26, none, .mv (.cst (.d (.int .i64 0))), []⟩])
 (.block 0 (.loop (.seq (.reg false [⟨some 27, none, .bin .lss (.tmp 26) (.tmp 25), []⟩])
 (.seq (.cond (.tmp 27) (.skip) (.exit 0))
 (.seq (.block 1 (.seq (.reg false [⟨some 28, none, .mv (.tmp 26), []⟩,
 ⟨some 29, none, .iaS 4 (.tmp 24) (.tmp 26), []⟩,
 ⟨some 30, none, .load true 4 (.tmp 29), []⟩,
 ⟨some 10, none, .alloc 92 [.int .i64 0, .int .i64 0, .int .i64 0, .int .i64 0], []⟩,
 ⟨some 9, none, .mv (.tmp 28), []⟩,
 ⟨none, none, .store 4 (.tmp 10) (.tmp 30), []⟩])
 (.seq (.reg false [⟨some 31, none, .load true 15 (.tmp 2), []⟩,
 ⟨some 32, none, .load true 4 (.tmp 10), []⟩,
 ⟨some 33, none, .load true 2 (.tmp 3), []⟩,
 ⟨some 34, none, .call 95 [.tmp 31, .tmp 32, .tmp 33], []⟩,
 ⟨some 11, none, .alloc 80 [.int .i64 0, .int .i64 0, .int .i64 0], []⟩,
 ⟨none, none, .store 3 (.tmp 11) (.tmp 34), []⟩])
 (.seq (.reg true [⟨some 35, none, .faddr 0 (.tmp 2), []⟩,
 ⟨some 36, none, .faddr 0 (.tmp 35), [0]⟩,
 ⟨some 37, none, .load false 1 (.tmp 36), [1]⟩,
 ⟨some 38, none, .iaA 2 1 (.glob 0) (.tmp 37), [2]⟩,
 ⟨some 39, none, .load false 1 (.tmp 38), [3]⟩,
 ⟨some 40, none, .load true 15 (.tmp 2), []⟩,
 ⟨some 41, none, .load true 3 (.tmp 11), []⟩,
 ⟨some 42, none, .callv (.tmp 39) [.tmp 40, .tmp 41], [4, 5, 6]⟩,
 ⟨some 43, none, .faddr 0 (.tmp 11), []⟩,
 ⟨some 44, none, .load false 1 (.tmp 43), [8]⟩,
 ⟨some 45, none, .build [.int .i64 0, .int .i64 0] [(0, 1, .tmp 42), (1, 1, .tmp 44)], [7, 9]⟩,
 ⟨some 12, none, .alloc 34 [.int .i64 0, .int .i64 0], []⟩,
 ⟨none, none, .store 2 (.tmp 12) (.tmp 45), [11, 10, 7, 0, 1, 2, 3, 4, 5, 6, 7, 8, 9, 10, 11]⟩])
 (.seq (.reg false [⟨some 46, none, .mv (.tmp 9), []⟩,
 ⟨some 47, none, .bin .eql (.tmp 46) (.cst (.d (.int .i64 0))), []⟩,
 ⟨some 48, none, .mv (.tmp 47), []⟩,
 ⟨some 49, some (48, false), .faddr 0 (.tmp 8), []⟩,
 ⟨some 50, some (48, false), .load false 1 (.tmp 49), []⟩,
 ⟨some 51, some (48, false), .load true 2 (.tmp 12), []⟩,
 ⟨some 52, some (48, false), .load true 2 (.tmp 7), []⟩,
 ⟨some 53, some (48, false), .callv (.tmp 50) [.tmp 51, .tmp 52], []⟩,
 ⟨some 54, none, .pick (.tmp 48) (.cst (.d (.bool true))) (.tmp 53), []⟩])
 (.cond (.tmp 54) (.reg false [⟨some 55, none, .load true 2 (.tmp 12), []⟩,
 ⟨none, none, .store 2 (.tmp 7) (.tmp 55), []⟩]) (.skip)))))))
 (.reg false [⟨some 56, none, .bin .add (.tmp 26) (.cst (.d (.int .i64 1))), []⟩,
 ⟨some 26, none, .mv (.tmp 56), []⟩])))))))
 (.seq (.reg true [⟨some 57, none, .faddr 14 (.tmp 2), []⟩,
 ⟨some 58, none, .load false 1 (.tmp 57), [0]⟩,
 ⟨some 59, none, .load true 2 (.tmp 3), []⟩,
 ⟨some 60, none, .load true 2 (.tmp 7), []⟩,
 ⟨some 61, none, .call 97 [.tmp 60], [3]⟩,
 ⟨none, none, .mapup 94 (.tmp 58) (.tmp 59) (.tmp 61), [1, 2, 4, 4, 0, 1, 2, 3, 4]⟩])
 (.seq (.reg false [⟨some 62, none, .faddr 14 (.tmp 2), []⟩,
 ⟨some 63, none, .load false 1 (.tmp 62), []⟩,
 ⟨some 64, none, .load true 2 (.tmp 3), []⟩,
 ⟨some 65, none, .lookup 94 false [.int .i64 0, .int .i64 0] true (.tmp 63) (.tmp 64), []⟩,
 ⟨none, none, .store 2 (.tmp 4) (.tmp 65), []⟩])
 (.ret))))))),
 [.cell true 2 4]⟩
theorem c73 : trF Tryd.prog Tryd.f73 = some i73 := by kernel_rfl
def i74 : IFun := ⟨107, .seq (.reg false [⟨some 4, none, .box 25 (.tmp 0), []⟩,
 ⟨some 8, none, .mv (.cst (.d (.int .i64 0))), []⟩,
 ⟨some 9, none, .mv (.cst (.d (.int .i64 0))), []⟩])
 (.seq (.reg true [⟨some 15, none, .mv (.tmp 2), []⟩,
 ⟨some 16, none, .mv (.tmp 2), []⟩,
 ⟨some 17, none, .faddr 5 (.tmp 4), []⟩,
 ⟨some 18, none, .load false 1 (.tmp 17), [2]⟩,
 ⟨some 19, none, .mv (.tmp 3), []⟩,
 ⟨some 20, none, .bin .add (.tmp 18) (.tmp 19), [3, 4]⟩,
 ⟨some 21, none, .bin .mul (.tmp 16) (.tmp 20), [1, 5]⟩,
 ⟨some 22, none, .mv (.tmp 2), []⟩,
 ⟨some 23, none, .faddr 6 (.tmp 4), []⟩,
 ⟨some 24, none, .load false 1 (.tmp 23), [8]⟩,
 ⟨some 25, none, .bin .mul (.tmp 22) (.tmp 24), [7, 9]⟩,
 ⟨some 10, none, .mv (.tmp 15), [0, 0]⟩,
 ⟨some 11, none, .mv (.tmp 21), [6, 11, 0, 1, 2, 3, 4, 5, 6, 11]⟩,
 ⟨some 12, none, .mv (.tmp 25), [10, 12, 0, 1, 2, 3, 4, 5, 6, 7, 8, 9, 10, 11, 12]⟩])
 (.seq (.seq (.reg false [⟨some 13, none, .mv (.cst (.d (.int .i64 0))), []⟩])
 (.block 0 (.loop (.seq (.seq (.reg false [⟨some 26, none, .mv (.tmp 13), []⟩,
 ⟨some 27, none, .mv (.tmp 1), []⟩,
 ⟨some 28, none, .len (.tmp 27), []⟩,
 ⟨some 29, none, .bin .lss (.tmp 26) (.tmp 28), []⟩])
 (.cond (.tmp 29) (.skip) (.exit 0)))
 (.seq (.block 1 (.seq (.reg false [⟨some 32, none, .mv (.tmp 10), []⟩,
 ⟨some 33, none, .mv (.tmp 1), []⟩,
 ⟨some 34, none, .mv (.tmp 13), []⟩,
 ⟨some 35, none, .iaS 1 (.tmp 33) (.tmp 34), []⟩,
 ⟨some 36, none, .load false 1 (.tmp 35), []⟩,
 ⟨some 37, none, .bin .add (.tmp 32) (.tmp 36), []⟩,
 ⟨some 10, none, .mv (.tmp 37), []⟩])
 (.seq (.reg true [⟨some 38, none, .mv (.tmp 11), []⟩,
 ⟨some 39, none, .mv (.tmp 1), []⟩,
 ⟨some 40, none, .mv (.tmp 13), []⟩,
 ⟨some 41, none, .iaS 1 (.tmp 39) (.tmp 40), [1, 2]⟩,
 ⟨some 42, none, .load false 1 (.tmp 41), [3]⟩,
 ⟨some 43, none, .faddr 4 (.tmp 4), []⟩,
 ⟨some 44, none, .load false 1 (.tmp 43), [5]⟩,
 ⟨some 45, none, .mv (.tmp 13), []⟩,
 ⟨some 46, none, .iaS 4 (.tmp 44) (.tmp 45), [6, 7]⟩,
 ⟨some 47, none, .faddr 2 (.tmp 46), [8]⟩,
 ⟨some 48, none, .load false 1 (.tmp 47), [9]⟩,
 ⟨some 49, none, .bin .mul (.tmp 42) (.tmp 48), [4, 10]⟩,
 ⟨some 50, none, .bin .add (.tmp 38) (.tmp 49), [0, 11]⟩,
 ⟨some 11, none, .mv (.tmp 50), [12, 0, 1, 2, 3, 4, 5, 6, 7, 8, 9, 10, 11, 12]⟩])
 (.reg true [⟨some 51, none, .mv (.tmp 12), []⟩,
 ⟨some 52, none, .mv (.tmp 1), []⟩,
 ⟨some 53, none, .mv (.tmp 13), []⟩,
 ⟨some 54, none, .iaS 1 (.tmp 52) (.tmp 53), [1, 2]⟩,
 ⟨some 55, none, .load false 1 (.tmp 54), [3]⟩,
 ⟨some 56, none, .faddr 4 (.tmp 4), []⟩,
 ⟨some 57, none, .load false 1 (.tmp 56), [5]⟩,
 ⟨some 58, none, .mv (.tmp 13), []⟩,
 ⟨some 59, none, .iaS 4 (.tmp 57) (.tmp 58), [6, 7]⟩,
 ⟨some 60, none, .faddr 3 (.tmp 59), [8]⟩,
 ⟨some 61, none, .load false 1 (.tmp 60), [9]⟩,
 ⟨some 62, none, .bin .mul (.tmp 55) (.tmp 61), [4, 10]⟩,
 ⟨some 63, none, .bin .add (.tmp 51) (.tmp 62), [0, 11]⟩,
 ⟨some 12, none, .mv (.tmp 63), [12, 0, 1, 2, 3, 4, 5, 6, 7, 8, 9, 10, 11, 12]⟩]))))
 (.reg false [⟨some 30, none, .mv (.tmp 13), []⟩,
 ⟨some 31, none, .bin .add (.tmp 30) (.cst (.d (.int .i64 1))), []⟩,
 ⟨some 13, none, .mv (.tmp 31), []⟩]))))))
 (.seq (.seq (.reg false [⟨some 64, none, .faddr 0 (.tmp 4), []⟩,
 ⟨some 65, none, .load false 1 (.tmp 64), []⟩,
 ⟨some 66, none, .bin .eql (.tmp 65) (.cst (.d (.int .i64 0))), []⟩])
 (.cond (.tmp 66) (.seq (.reg false [⟨some 67, none, .faddr 2 (.tmp 4), []⟩,
 ⟨some 68, none, .load false 1 (.tmp 67), []⟩,
 ⟨some 69, none, .mv (.tmp 10), []⟩,
 ⟨some 70, none, .bin .mul (.tmp 68) (.tmp 69), []⟩,
 ⟨some 71, none, .mv (.tmp 11), []⟩,
 ⟨some 72, none, .bin .add (.tmp 70) (.tmp 71), []⟩,
 ⟨some 73, none, .faddr 1 (.tmp 4), []⟩,
 ⟨some 74, none, .load false 1 (.tmp 73), []⟩,
 ⟨some 75, none, .mv (.tmp 10), []⟩,
 ⟨some 76, none, .bin .mul (.tmp 74) (.tmp 75), []⟩,
 ⟨some 77, none, .mv (.tmp 11), []⟩,
 ⟨some 78, none, .bin .sub (.tmp 76) (.tmp 77), []⟩,
 ⟨some 79, none, .mm false [.tmp 72, .tmp 78], []⟩,
 ⟨some 80, none, .mv (.tmp 10), []⟩,
 ⟨some 8, none, .mv (.tmp 79), []⟩,
 ⟨some 9, none, .mv (.tmp 80), []⟩])
 (.ret)) (.skip)))
 (.seq (.reg false [⟨some 81, none, .faddr 3 (.tmp 4), []⟩,
 ⟨some 82, none, .load false 1 (.tmp 81), []⟩,
 ⟨some 83, none, .mv (.tmp 10), []⟩,
 ⟨some 84, none, .bin .mul (.tmp 82) (.tmp 83), []⟩,
 ⟨some 85, none, .mv (.tmp 12), []⟩,
 ⟨some 86, none, .bin .sub (.tmp 84) (.tmp 85), []⟩,
 ⟨some 14, none, .mv (.tmp 86), []⟩])
 (.seq (.reg false [⟨some 87, none, .faddr 2 (.tmp 4), []⟩,
 ⟨some 88, none, .load false 1 (.tmp 87), []⟩,
 ⟨some 89, none, .mv (.tmp 14), []⟩,
 ⟨some 90, none, .bin .mul (.tmp 88) (.tmp 89), []⟩,
 ⟨some 91, none, .faddr 3 (.tmp 4), []⟩,
 ⟨some 92, none, .load false 1 (.tmp 91), []⟩,
 ⟨some 93, none, .mv (.tmp 11), []⟩,
 ⟨some 94, none, .bin .mul (.tmp 92) (.tmp 93), []⟩,
 ⟨some 95, none, .bin .add (.tmp 90) (.tmp 94), []⟩,
 ⟨some 96, none, .faddr 1 (.tmp 4), []⟩,
 ⟨some 97, none, .load false 1 (.tmp 96), []⟩,
 ⟨some 98, none, .mv (.tmp 14), []⟩,
 ⟨some 99, none, .bin .mul (.tmp 97) (.tmp 98), []⟩,
 ⟨some 100, none, .faddr 3 (.tmp 4), []⟩,
 ⟨some 101, none, .load false 1 (.tmp 100), []⟩,
 ⟨some 102, none, .mv (.tmp 11), []⟩,
 ⟨some 103, none, .bin .mul (.tmp 101) (.tmp 102), []⟩,
 ⟨some 104, none, .bin .sub (.tmp 99) (.tmp 103), []⟩,
 ⟨some 105, none, .mm false [.tmp 95, .tmp 104], []⟩,
 ⟨some 106, none, .mv (.tmp 10), []⟩,
 ⟨some 8, none, .mv (.tmp 105), []⟩,
 ⟨some 9, none, .mv (.tmp 106), []⟩])
 (.ret)))))),
 [.tmp 8, .tmp 9]⟩
theorem c74 : trF Tryd.prog Tryd.f74 = some i74 := by kernel_rfl
def i75 : IFun := ⟨25, .seq (.reg false [⟨some 4, none, .alloc 34 [.int .i64 0, .int .i64 0], []⟩])
 (.seq (.reg false [⟨some 7, none, .mv (.tmp 0), []⟩,
 ⟨some 8, none, .mv (.tmp 0), []⟩,
 ⟨some 9, none, .un .neg (.tmp 8), []⟩,
 ⟨some 10, none, .mm true [.tmp 7, .tmp 9], []⟩,
 ⟨some 11, none, .mv (.tmp 1), []⟩,
 ⟨some 5, none, .mv (.tmp 10), []⟩,
 ⟨some 6, none, .mv (.tmp 11), []⟩])
 (.seq (.block 0 (.loop (.seq (.seq (.reg false [⟨some 12, none, .mv (.tmp 6), []⟩,
 ⟨some 13, none, .bin .gtr (.tmp 12) (.cst (.d (.int .i64 0))), []⟩])
 (.cond (.tmp 13) (.skip) (.exit 0)))
 (.block 1 (.reg true [⟨some 14, none, .mv (.tmp 6), []⟩,
 ⟨some 15, none, .mv (.tmp 5), []⟩,
 ⟨some 16, none, .mv (.tmp 6), []⟩,
 ⟨some 17, none, .bin .rem (.tmp 15) (.tmp 16), [1, 2]⟩,
 ⟨some 5, none, .mv (.tmp 14), [0, 0, 1]⟩,
 ⟨some 6, none, .mv (.tmp 17), [3, 4, 0, 1, 2, 3, 4]⟩])))))
 (.seq (.reg true [⟨some 18, none, .mv (.tmp 0), []⟩,
 ⟨some 19, none, .mv (.tmp 5), []⟩,
 ⟨some 20, none, .bin .quo (.tmp 18) (.tmp 19), [0, 1]⟩,
 ⟨some 21, none, .mv (.tmp 1), []⟩,
 ⟨some 22, none, .mv (.tmp 5), []⟩,
 ⟨some 23, none, .bin .quo (.tmp 21) (.tmp 22), [3, 4]⟩,
 ⟨some 24, none, .build [.int .i64 0, .int .i64 0] [(0, 1, .tmp 20), (1, 1, .tmp 23)], [2, 5]⟩,
 ⟨none, none, .store 2 (.tmp 4) (.tmp 24), [6, 0, 1, 2, 3, 4, 5, 6]⟩])
 (.ret)))),
 [.cell true 2 4]⟩
theorem c75 : trF Tryd.prog Tryd.f75 = some i75 := by kernel_rfl
def i76 : IFun := ⟨26, .seq (.reg false [⟨some 2, none, .box 83 (.tmp 0), []⟩,
 ⟨some 4, none, .mv (.cst (.d (.bool false))), []⟩])
 (.seq (.reg false [⟨some 5, none, .load true 15 (.tmp 2), []⟩,
 ⟨some 6, none, .mv (.tmp 1), []⟩,
 ⟨some 7, none, .faddr 0 (.tmp 2), []⟩,
 ⟨some 8, none, .faddr 7 (.tmp 7), []⟩,
 ⟨some 9, none, .load false 1 (.tmp 8), []⟩,
 ⟨some 10, none, .un .neg (.tmp 9), []⟩,
 ⟨some 11, none, .build [.int .i64 0, .int .i64 0] [(0, 1, .tmp 6), (1, 1, .tmp 10)], []⟩,
 ⟨some 12, none, .call 73 [.tmp 5, .tmp 11], []⟩,
 ⟨some 13, none, .fld false 0 1 (.tmp 12), []⟩,
 ⟨some 14, none, .bin .geq (.tmp 13) (.cst (.d (.int .i64 0))), []⟩,
 ⟨some 15, none, .mv (.tmp 14), []⟩,
 ⟨some 16, some (15, true), .load true 15 (.tmp 2), []⟩,
 ⟨some 17, some (15, true), .mv (.tmp 1), []⟩,
 ⟨some 18, some (15, true), .faddr 0 (.tmp 2), []⟩,
 ⟨some 19, some (15, true), .faddr 7 (.tmp 18), []⟩,
 ⟨some 20, some (15, true), .load false 1 (.tmp 19), []⟩,
 ⟨some 21, some (15, true), .build [.int .i64 0, .int .i64 0] [(0, 1, .tmp 17), (1, 1, .tmp 20)], []⟩,
 ⟨some 22, some (15, true), .call 73 [.tmp 16, .tmp 21], []⟩,
 ⟨some 23, some (15, true), .fld false 0 1 (.tmp 22), []⟩,
 ⟨some 24, some (15, true), .bin .geq (.tmp 23) (.cst (.d (.int .i64 0))), []⟩,
 ⟨some 25, none, .pick (.tmp 15) (.tmp 24) (.cst (.d (.bool false))), []⟩,
 ⟨some 4, none, .mv (.tmp 25), []⟩])
 (.ret)),
 [.tmp 4]⟩
theorem c76 : trF Tryd.prog Tryd.f76 = some i76 := by kernel_rfl
def i80 : IFun := ⟨28, .seq (.reg false [⟨some 3, none, .box 83 (.tmp 0), []⟩,
 ⟨some 4, none, .box 80 (.tmp 1), []⟩,
 ⟨some 6, none, .alloc 83 [.int .i64 0, .int .i64 0, .int .i64 0, .int .i64 0, .nilSl, .int .i64 0, .int .i64 0, .int .i64 0, .int .i64 0, .nilSl, .nilSl, .int .i64 0, .int .i64 0, .int .i64 0, .nilMap], []⟩])
 (.seq (.reg false [⟨some 8, none, .load true 15 (.tmp 3), []⟩,
 ⟨some 7, none, .alloc 83 [.int .i64 0, .int .i64 0, .int .i64 0, .int .i64 0, .nilSl, .int .i64 0, .int .i64 0, .int .i64 0, .int .i64 0, .nilSl, .nilSl, .int .i64 0, .int .i64 0, .int .i64 0, .nilMap], []⟩,
 ⟨none, none, .store 15 (.tmp 7) (.tmp 8), []⟩])
 (.seq (.reg true [⟨some 9, none, .load true 3 (.tmp 4), []⟩,
 ⟨some 10, none, .faddr 0 (.tmp 3), []⟩,
 ⟨some 11, none, .faddr 1 (.tmp 10), [1]⟩,
 ⟨some 12, none, .load false 1 (.tmp 11), [2]⟩,
 ⟨some 13, none, .mv (.tmp 2), []⟩,
 ⟨some 14, none, .bin .add (.tmp 12) (.tmp 13), [3, 4]⟩,
 ⟨some 15, none, .faddr 0 (.tmp 3), []⟩,
 ⟨some 16, none, .faddr 2 (.tmp 15), [6]⟩,
 ⟨some 17, none, .load false 1 (.tmp 16), [7]⟩,
 ⟨some 18, none, .mv (.tmp 2), []⟩,
 ⟨some 19, none, .bin .add (.tmp 17) (.tmp 18), [8, 9]⟩,
 ⟨some 20, none, .mkmap, []⟩,
 ⟨some 21, none, .faddr 11 (.tmp 7), [0]⟩,
 ⟨none, none, .store 3 (.tmp 21) (.tmp 9), [12, 0, 0]⟩,
 ⟨some 22, none, .faddr 0 (.tmp 7), [0, 1, 2, 3, 4, 5, 12, 13]⟩,
 ⟨some 23, none, .faddr 1 (.tmp 22), [14, 0, 1, 2, 3, 4, 5, 12, 13]⟩,
 ⟨none, none, .store 1 (.tmp 23) (.tmp 14), [15, 5, 13, 0, 1, 2, 3, 4, 5, 12, 13]⟩,
 ⟨some 24, none, .faddr 0 (.tmp 7), [0, 1, 2, 3, 4, 5, 6, 7, 8, 9, 10, 12, 13, 14, 15, 16]⟩,
 ⟨some 25, none, .faddr 2 (.tmp 24), [17, 0, 1, 2, 3, 4, 5, 6, 7, 8, 9, 10, 12, 13, 14, 15, 16]⟩,
 ⟨none, none, .store 1 (.tmp 25) (.tmp 19), [18, 10, 16, 0, 1, 2, 3, 4, 5, 6, 7, 8, 9, 10, 12, 13, 14, 15, 16]⟩,
 ⟨some 26, none, .faddr 14 (.tmp 7), [0, 1, 2, 3, 4, 5, 6, 7, 8, 9, 10, 11, 12, 13, 14, 15, 16, 17, 18, 19]⟩,
 ⟨none, none, .store 1 (.tmp 26) (.tmp 20), [20, 11, 19, 0, 1, 2, 3, 4, 5, 6, 7, 8, 9, 10, 11, 12, 13, 14, 15, 16, 17, 18, 19]⟩])
 (.seq (.reg false [⟨some 27, none, .load true 15 (.tmp 7), []⟩,
 ⟨none, none, .store 15 (.tmp 6) (.tmp 27), []⟩])
 (.ret)))),
 [.cell true 15 6]⟩
theorem c80 : trF Tryd.prog Tryd.f80 = some i80 := by kernel_rfl
def i81 : IFun := ⟨12, .seq (.reg false [⟨some 1, none, .box 83 (.tmp 0), []⟩,
 ⟨some 2, none, .mv (.cst (.d (.bool false))), []⟩])
 (.seq (.reg false [⟨some 3, none, .load true 15 (.tmp 1), []⟩,
 ⟨some 4, none, .call 76 [.tmp 3, .cst (.d (.int .i64 1))], []⟩,
 ⟨some 5, none, .mv (.tmp 4), []⟩,
 ⟨some 6, some (5, true), .load true 15 (.tmp 1), []⟩,
 ⟨some 7, some (5, true), .faddr 0 (.tmp 1), []⟩,
 ⟨some 8, some (5, true), .faddr 8 (.tmp 7), []⟩,
 ⟨some 9, some (5, true), .load false 1 (.tmp 8), []⟩,
 ⟨some 10, some (5, true), .call 76 [.tmp 6, .tmp 9], []⟩,
 ⟨some 11, none, .pick (.tmp 5) (.tmp 10) (.cst (.d (.bool false))), []⟩,
 ⟨some 2, none, .mv (.tmp 11), []⟩])
 (.ret)),
 [.tmp 2]⟩
theorem c81 : trF Tryd.prog Tryd.f81 = some i81 := by kernel_rfl
def i82 : IFun := ⟨17, .seq (.reg false [⟨some 4, none, .mv (.cst (.d (.nilSl))), []⟩])
 (.seq (.reg false [⟨some 6, none, .mv (.tmp 0), []⟩,
 ⟨some 7, none, .len (.tmp 6), []⟩,
 ⟨some 8, none, .bin .add (.tmp 7) (.cst (.d (.int .i64 1))), []⟩,
 ⟨some 9, none, .mksl 3 1 8 [.int .i64 0] (.cst (.d (.int .i64 0))) (.tmp 8), []⟩,
 ⟨some 5, none, .mv (.tmp 9), []⟩])
 (.seq (.reg false [⟨some 10, none, .mv (.tmp 5), []⟩,
 ⟨some 11, none, .mv (.tmp 0), []⟩,
 ⟨some 12, none, .app 3 1 8 (.tmp 10) (.tmp 11), []⟩,
 ⟨some 5, none, .mv (.tmp 12), []⟩])
 (.seq (.reg false [⟨some 13, none, .mv (.tmp 5), []⟩,
 ⟨some 14, none, .mv (.tmp 1), []⟩,
 ⟨some 15, none, .bsl 3 1 1 [.int .i64 0] [(0, 1, .tmp 14)], []⟩,
 ⟨some 16, none, .app 3 1 8 (.tmp 13) (.tmp 15), []⟩,
 ⟨some 4, none, .mv (.tmp 16), []⟩])
 (.ret)))),
 [.tmp 4]⟩
theorem c82 : trF Tryd.prog Tryd.f82 = some i82 := by kernel_rfl
def i83 : IFun := ⟨60, .seq (.reg false [⟨some 5, none, .box 47 (.tmp 0), []⟩,
 ⟨some 7, none, .alloc 47 [.nilSl], []⟩,
 ⟨some 8, none, .alloc 4 [.bool false], []⟩])
 (.seq (.reg false [⟨some 15, none, .load false 1 (.tmp 5), []⟩,
 ⟨some 16, none, .len (.tmp 15), []⟩,
 ⟨some 9, none, .mv (.tmp 16), []⟩])
 (.seq (.seq (.reg false [⟨some 17, none, .mv (.tmp 9), []⟩,
 ⟨some 18, none, .mv (.tmp 1), []⟩,
 ⟨some 19, none, .bin .eql (.tmp 17) (.tmp 18), []⟩])
 (.cond (.tmp 19) (.scope (.seq (.skip)
 (.seq (.seq (.reg false [⟨some 20, none, .load true 15 (.tmp 2), []⟩,
 ⟨some 21, none, .call 84 [.tmp 20], []⟩])
 (.block 0 (.rfun (.tmp 21) [22] (.reg false [⟨some 10, none, .alloc 92 [.int .i64 0, .int .i64 0, .int .i64 0, .int .i64 0], []⟩,
 ⟨none, none, .store 4 (.tmp 10) (.tmp 22), []⟩]) (.block 1 (.seq (.seq (.reg false [⟨some 23, none, .load true 15 (.tmp 2), []⟩,
 ⟨some 24, none, .load true 4 (.tmp 10), []⟩,
 ⟨some 25, none, .load false 1 (.tmp 5), []⟩,
 ⟨some 26, none, .call 85 [.tmp 23, .tmp 24, .tmp 25], []⟩,
 ⟨some 27, none, .un .not (.tmp 26), []⟩])
 (.cond (.tmp 27) (.exit 1) (.skip)))
 (.seq (.reg false [⟨some 28, none, .load false 1 (.tmp 5), []⟩,
 ⟨none, none, .store 1 (.tmp 7) (.tmp 28), []⟩,
 ⟨none, none, .store 1 (.tmp 8) (.cst (.d (.bool true))), []⟩])
 (.ret)))))))
 (.seq (.reg false [⟨none, none, .store 1 (.tmp 7) (.cst (.d (.nilSl))), []⟩,
 ⟨none, none, .store 1 (.tmp 8) (.cst (.d (.bool false))), []⟩])
 (.ret))))) (.skip)))
 (.seq (.reg false [⟨some 11, none, .mv (.cst (.d (.int .i64 0))), []⟩])
 (.seq (.seq (.reg false [⟨some 29, none, .mv (.tmp 9), []⟩,
 ⟨some 30, none, .bin .gtr (.tmp 29) (.cst (.d (.int .i64 0))), []⟩])
 (.cond (.tmp 30) (.reg false [⟨some 31, none, .load false 1 (.tmp 5), []⟩,
 ⟨some 32, none, .mv (.tmp 9), []⟩,
 ⟨some 33, none, .bin .sub (.tmp 32) (.cst (.d (.int .i64 1))), []⟩,
 ⟨some 34, none, .iaS 1 (.tmp 31) (.tmp 33), []⟩,
 ⟨some 35, none, .load false 1 (.tmp 34), []⟩,
 ⟨some 36, none, .bin .add (.tmp 35) (.cst (.d (.int .i64 1))), []⟩,
 ⟨some 11, none, .mv (.tmp 36), []⟩]) (.skip)))
 (.seq (.seq (.reg false [⟨some 37, none, .mv (.tmp 11), []⟩,
 ⟨some 12, none, .mv (.tmp 37), []⟩])
 (.block 2 (.loop (.seq (.seq (.reg false [⟨some 38, none, .mv (.tmp 12), []⟩,
 ⟨some 39, none, .faddr 9 (.tmp 3), []⟩,
 ⟨some 40, none, .load false 1 (.tmp 39), []⟩,
 ⟨some 41, none, .len (.tmp 40), []⟩,
 ⟨some 42, none, .bin .lss (.tmp 38) (.tmp 41), []⟩])
 (.cond (.tmp 42) (.skip) (.exit 2)))
 (.seq (.block 3 (.seq (.reg true [⟨some 46, none, .load false 1 (.tmp 4), []⟩,
 ⟨some 47, none, .load false 1 (.tmp 5), []⟩,
 ⟨some 48, none, .mv (.tmp 9), []⟩,
 ⟨some 49, none, .mv (.tmp 9), []⟩,
 ⟨some 50, none, .slc 1 (.tmp 47) none (some (.tmp 48)) (some (.tmp 49)), [1, 2, 3]⟩,
 ⟨some 51, none, .mv (.tmp 12), []⟩,
 ⟨some 52, none, .bsl 3 1 1 [.int .i64 0] [(0, 1, .tmp 51)], [5]⟩,
 ⟨some 53, none, .app 3 1 8 (.tmp 50) (.tmp 52), [4, 6]⟩,
 ⟨some 54, none, .mv (.tmp 1), []⟩,
 ⟨some 55, none, .callv (.tmp 46) [.tmp 53, .tmp 54], [0, 7, 8, 7]⟩,
 ⟨some 45, none, .mv (.tmp 55), [9]⟩,
 ⟨some 56, none, .ext (.tmp 45) 0, [10]⟩,
 ⟨some 57, none, .ext (.tmp 45) 1, [10]⟩,
 ⟨some 13, none, .mv (.tmp 56), [11, 9, 0, 1, 2, 3, 4, 5, 6, 7, 8, 9, 10, 11]⟩,
 ⟨some 14, none, .mv (.tmp 57), [12, 13, 0, 1, 2, 3, 4, 5, 6, 7, 8, 9, 10, 11, 12, 13]⟩])
 (.seq (.reg false [⟨some 58, none, .mv (.tmp 14), []⟩])
 (.cond (.tmp 58) (.seq (.reg false [⟨some 59, none, .mv (.tmp 13), []⟩,
 ⟨none, none, .store 1 (.tmp 7) (.tmp 59), []⟩,
 ⟨none, none, .store 1 (.tmp 8) (.cst (.d (.bool true))), []⟩])
 (.ret)) (.skip)))))
 (.reg false [⟨some 43, none, .mv (.tmp 12), []⟩,
 ⟨some 44, none, .bin .add (.tmp 43) (.cst (.d (.int .i64 1))), []⟩,
 ⟨some 12, none, .mv (.tmp 44), []⟩]))))))
 (.seq (.reg false [⟨none, none, .store 1 (.tmp 7) (.cst (.d (.nilSl))), []⟩,
 ⟨none, none, .store 1 (.tmp 8) (.cst (.d (.bool false))), []⟩])
 (.ret))))))),
 [.cell false 1 7, .cell false 1 8]⟩
theorem c83 : trF Tryd.prog Tryd.f83 = some i83 := by kernel_rfl
def i84 : IFun := ⟨4, .seq (.reg false [⟨some 1, none, .box 83 (.tmp 0), []⟩,
 ⟨some 2, none, .mv (.cst (.d (.nilFn))), []⟩])
 (.seq (.reg false [⟨some 3, none, .mkf 98 [] [.tmp 1], []⟩,
 ⟨some 2, none, .mv (.tmp 3), []⟩])
 (.ret)),
 [.tmp 2]⟩
theorem c84 : trF Tryd.prog Tryd.f84 = some i84 := by kernel_rfl
def i85 : IFun := ⟨36, .seq (.reg false [⟨some 3, none, .box 83 (.tmp 0), []⟩,
 ⟨some 4, none, .box 92 (.tmp 1), []⟩,
 ⟨some 6, none, .mv (.cst (.d (.bool false))), []⟩])
 (.seq (.seq (.reg false [⟨some 9, none, .faddr 0 (.tmp 3), []⟩,
 ⟨some 10, none, .faddr 9 (.tmp 9), []⟩,
 ⟨some 11, none, .load false 1 (.tmp 10), []⟩,
 ⟨some 12, none, .len (.tmp 11), []⟩,
 ⟨some 13, none, .mv (.cst (.d (.int .i64 0))), []⟩])
 (.block 0 (.loop (.seq (.reg false [⟨some 14, none, .bin .lss (.tmp 13) (.tmp 12), []⟩])
 (.seq (.cond (.tmp 14) (.skip) (.exit 0))
 (.seq (.block 1 (.seq (.reg false [⟨some 15, none, .mv (.tmp 13), []⟩,
 ⟨some 16, none, .iaS 3 (.tmp 11) (.tmp 13), []⟩,
 ⟨some 17, none, .load true 3 (.tmp 16), []⟩,
 ⟨some 8, none, .alloc 65 [.int .i64 0, .int .i64 0, .bool false], []⟩,
 ⟨some 7, none, .mv (.tmp 15), []⟩,
 ⟨none, none, .store 3 (.tmp 8) (.tmp 17), []⟩])
 (.seq (.reg true [⟨some 18, none, .mv (.tmp 2), []⟩,
 ⟨some 19, none, .mv (.tmp 7), []⟩,
 ⟨some 20, none, .call 101 [.tmp 18, .tmp 19], [0, 1]⟩,
 ⟨some 21, none, .un .not (.tmp 20), [2]⟩,
 ⟨some 22, none, .mv (.tmp 21), [3, 2]⟩,
 ⟨some 23, some (22, true), .load true 15 (.tmp 3), [4]⟩,
 ⟨some 24, some (22, true), .load true 4 (.tmp 4), [4]⟩,
 ⟨some 25, some (22, true), .faddr 0 (.tmp 8), [4]⟩,
 ⟨some 26, some (22, true), .load false 1 (.tmp 25), [7, 4]⟩,
 ⟨some 27, some (22, true), .faddr 1 (.tmp 8), [4]⟩,
 ⟨some 28, some (22, true), .load false 1 (.tmp 27), [9, 4]⟩,
 ⟨some 29, some (22, true), .build [.int .i64 0, .int .i64 0] [(0, 1, .tmp 26), (1, 1, .tmp 28)], [8, 10, 4]⟩,
 ⟨some 30, some (22, true), .call 70 [.tmp 23, .tmp 24, .tmp 29], [5, 6, 11, 4, 4]⟩,
 ⟨some 31, some (22, true), .faddr 2 (.tmp 8), [4]⟩,
 ⟨some 32, some (22, true), .load false 1 (.tmp 31), [13, 4]⟩,
 ⟨some 33, some (22, true), .beq true (.tmp 30) (.tmp 32), [12, 14, 4]⟩,
 ⟨some 34, none, .pick (.tmp 22) (.tmp 33) (.cst (.d (.bool false))), [4, 15]⟩])
 (.cond (.tmp 34) (.seq (.reg false [⟨some 6, none, .mv (.cst (.d (.bool false))), []⟩])
 (.ret)) (.skip)))))
 (.reg false [⟨some 35, none, .bin .add (.tmp 13) (.cst (.d (.int .i64 1))), []⟩,
 ⟨some 13, none, .mv (.tmp 35), []⟩])))))))
 (.seq (.reg false [⟨some 6, none, .mv (.cst (.d (.bool true))), []⟩])
 (.ret))),
 [.tmp 6]⟩
theorem c85 : trF Tryd.prog Tryd.f85 = some i85 := by kernel_rfl
def i87 : IFun := ⟨24, .seq (.reg false [⟨some 3, none, .box 42 (.tmp 0), []⟩,
 ⟨some 6, none, .mv (.cst (.d (.bool false))), []⟩])
 (.seq (.reg false [⟨some 7, none, .mv (.tmp 1), []⟩,
 ⟨some 8, none, .faddr 0 (.tmp 3), []⟩,
 ⟨some 9, none, .load false 1 (.tmp 8), []⟩,
 ⟨some 10, none, .bin .leq (.tmp 7) (.tmp 9), []⟩,
 ⟨some 11, none, .mv (.tmp 10), []⟩,
 ⟨some 12, some (11, true), .faddr 0 (.tmp 3), []⟩,
 ⟨some 13, some (11, true), .load false 1 (.tmp 12), []⟩,
 ⟨some 14, some (11, true), .faddr 1 (.tmp 3), []⟩,
 ⟨some 15, some (11, true), .load false 1 (.tmp 14), []⟩,
 ⟨some 16, some (11, true), .bin .leq (.tmp 13) (.tmp 15), []⟩,
 ⟨some 17, none, .pick (.tmp 11) (.tmp 16) (.cst (.d (.bool false))), []⟩,
 ⟨some 18, none, .mv (.tmp 17), []⟩,
 ⟨some 19, some (18, true), .faddr 1 (.tmp 3), []⟩,
 ⟨some 20, some (18, true), .load false 1 (.tmp 19), []⟩,
 ⟨some 21, some (18, true), .mv (.tmp 2), []⟩,
 ⟨some 22, some (18, true), .bin .leq (.tmp 20) (.tmp 21), []⟩,
 ⟨some 23, none, .pick (.tmp 18) (.tmp 22) (.cst (.d (.bool false))), []⟩,
 ⟨some 6, none, .mv (.tmp 23), []⟩])
 (.ret)),
 [.tmp 6]⟩
theorem c87 : trF Tryd.prog Tryd.f87 = some i87 := by kernel_rfl
def i94 : IFun := ⟨42, .seq (.reg false [⟨some 2, none, .box 25 (.tmp 0), []⟩,
 ⟨some 4, none, .mv (.cst (.d (.nilSl))), []⟩])
 (.seq (.seq (.reg false [⟨some 8, none, .mv (.tmp 1), []⟩,
 ⟨some 9, none, .len (.tmp 8), []⟩,
 ⟨some 10, none, .faddr 4 (.tmp 2), []⟩,
 ⟨some 11, none, .load false 1 (.tmp 10), []⟩,
 ⟨some 12, none, .len (.tmp 11), []⟩,
 ⟨some 13, none, .bin .eql (.tmp 9) (.tmp 12), []⟩])
 (.cond (.tmp 13) (.seq (.seq (.reg false [⟨some 14, none, .load true 10 (.tmp 2), []⟩,
 ⟨some 15, none, .mv (.tmp 1), []⟩,
 ⟨some 16, none, .call 102 [.tmp 14, .tmp 15], []⟩])
 (.cond (.tmp 16) (.seq (.reg false [⟨some 17, none, .mv (.tmp 1), []⟩,
 ⟨some 18, none, .bsl 47 1 1 [.nilSl] [(0, 1, .tmp 17)], []⟩,
 ⟨some 4, none, .mv (.tmp 18), []⟩])
 (.ret)) (.skip)))
 (.seq (.reg false [⟨some 4, none, .mv (.cst (.d (.nilSl))), []⟩])
 (.ret))) (.skip)))
 (.seq (.reg false [⟨some 5, none, .mv (.cst (.d (.nilSl))), []⟩])
 (.seq (.reg false [⟨some 19, none, .faddr 4 (.tmp 2), []⟩,
 ⟨some 20, none, .load false 1 (.tmp 19), []⟩,
 ⟨some 21, none, .mv (.tmp 1), []⟩,
 ⟨some 22, none, .len (.tmp 21), []⟩,
 ⟨some 23, none, .iaS 4 (.tmp 20) (.tmp 22), []⟩,
 ⟨some 24, none, .faddr 0 (.tmp 23), []⟩,
 ⟨some 25, none, .load true 2 (.tmp 24), []⟩,
 ⟨some 6, none, .alloc 42 [.int .i64 0, .int .i64 0], []⟩,
 ⟨none, none, .store 2 (.tmp 6) (.tmp 25), []⟩])
 (.seq (.seq (.reg false [⟨some 26, none, .faddr 0 (.tmp 6), []⟩,
 ⟨some 27, none, .load false 1 (.tmp 26), []⟩,
 ⟨some 7, none, .mv (.tmp 27), []⟩])
 (.block 0 (.loop (.seq (.seq (.reg false [⟨some 28, none, .mv (.tmp 7), []⟩,
 ⟨some 29, none, .faddr 1 (.tmp 6), []⟩,
 ⟨some 30, none, .load false 1 (.tmp 29), []⟩,
 ⟨some 31, none, .bin .leq (.tmp 28) (.tmp 30), []⟩])
 (.cond (.tmp 31) (.skip) (.exit 0)))
 (.seq (.block 1 (.reg true [⟨some 34, none, .mv (.tmp 5), []⟩,
 ⟨some 35, none, .load true 10 (.tmp 2), []⟩,
 ⟨some 36, none, .mv (.tmp 1), []⟩,
 ⟨some 37, none, .mv (.tmp 7), []⟩,
 ⟨some 38, none, .call 82 [.tmp 36, .tmp 37], [2, 3]⟩,
 ⟨some 39, none, .call 94 [.tmp 35, .tmp 38], [1, 4, 4]⟩,
 ⟨some 40, none, .app 47 1 24 (.tmp 34) (.tmp 39), [0, 5, 5]⟩,
 ⟨some 5, none, .mv (.tmp 40), [6, 6, 0, 1, 2, 3, 4, 5, 6]⟩]))
 (.reg false [⟨some 32, none, .mv (.tmp 7), []⟩,
 ⟨some 33, none, .bin .add (.tmp 32) (.cst (.d (.int .i64 1))), []⟩,
 ⟨some 7, none, .mv (.tmp 33), []⟩]))))))
 (.seq (.reg false [⟨some 41, none, .mv (.tmp 5), []⟩,
 ⟨some 4, none, .mv (.tmp 41), []⟩])
 (.ret)))))),
 [.tmp 4]⟩
theorem c94 : trF Tryd.prog Tryd.f94 = some i94 := by kernel_rfl
def i95 : IFun := ⟨79, .seq (.reg false [⟨some 3, none, .box 83 (.tmp 0), []⟩,
 ⟨some 4, none, .box 92 (.tmp 1), []⟩,
 ⟨some 5, none, .box 94 (.tmp 2), []⟩,
 ⟨some 6, none, .alloc 80 [.int .i64 0, .int .i64 0, .int .i64 0], []⟩])
 (.seq (.reg false [⟨some 10, none, .faddr 11 (.tmp 3), []⟩,
 ⟨some 11, none, .load true 3 (.tmp 10), []⟩,
 ⟨some 7, none, .alloc 80 [.int .i64 0, .int .i64 0, .int .i64 0], []⟩,
 ⟨none, none, .store 3 (.tmp 7) (.tmp 11), []⟩])
 (.seq (.reg false [⟨some 12, none, .faddr 0 (.tmp 7), []⟩,
 ⟨some 13, none, .load false 1 (.tmp 12), []⟩,
 ⟨some 14, none, .faddr 0 (.tmp 5), []⟩,
 ⟨some 15, none, .load false 1 (.tmp 14), []⟩,
 ⟨some 16, none, .bin .add (.tmp 13) (.tmp 15), []⟩,
 ⟨some 17, none, .faddr 0 (.tmp 7), []⟩,
 ⟨none, none, .store 1 (.tmp 17) (.tmp 16), []⟩])
 (.seq (.reg false [⟨some 18, none, .faddr 1 (.tmp 7), []⟩,
 ⟨some 19, none, .load false 1 (.tmp 18), []⟩,
 ⟨some 20, none, .faddr 0 (.tmp 5), []⟩,
 ⟨some 21, none, .load false 1 (.tmp 20), []⟩,
 ⟨some 22, none, .faddr 0 (.tmp 3), []⟩,
 ⟨some 23, none, .faddr 5 (.tmp 22), []⟩,
 ⟨some 24, none, .load false 1 (.tmp 23), []⟩,
 ⟨some 25, none, .faddr 1 (.tmp 5), []⟩,
 ⟨some 26, none, .load false 1 (.tmp 25), []⟩,
 ⟨some 27, none, .bin .add (.tmp 24) (.tmp 26), []⟩,
 ⟨some 28, none, .bin .mul (.tmp 21) (.tmp 27), []⟩,
 ⟨some 29, none, .bin .add (.tmp 19) (.tmp 28), []⟩,
 ⟨some 30, none, .faddr 1 (.tmp 7), []⟩,
 ⟨none, none, .store 1 (.tmp 30) (.tmp 29), []⟩])
 (.seq (.reg false [⟨some 31, none, .faddr 2 (.tmp 7), []⟩,
 ⟨some 32, none, .load false 1 (.tmp 31), []⟩,
 ⟨some 33, none, .faddr 0 (.tmp 5), []⟩,
 ⟨some 34, none, .load false 1 (.tmp 33), []⟩,
 ⟨some 35, none, .faddr 0 (.tmp 3), []⟩,
 ⟨some 36, none, .faddr 6 (.tmp 35), []⟩,
 ⟨some 37, none, .load false 1 (.tmp 36), []⟩,
 ⟨some 38, none, .bin .mul (.tmp 34) (.tmp 37), []⟩,
 ⟨some 39, none, .bin .add (.tmp 32) (.tmp 38), []⟩,
 ⟨some 40, none, .faddr 2 (.tmp 7), []⟩,
 ⟨none, none, .store 1 (.tmp 40) (.tmp 39), []⟩])
 (.seq (.seq (.reg false [⟨some 41, none, .faddr 0 (.tmp 3), []⟩,
 ⟨some 42, none, .faddr 4 (.tmp 41), []⟩,
 ⟨some 43, none, .load false 1 (.tmp 42), []⟩,
 ⟨some 44, none, .len (.tmp 43), []⟩,
 ⟨some 45, none, .mv (.cst (.d (.int .i64 0))), []⟩])
 (.block 0 (.loop (.seq (.reg false [⟨some 46, none, .bin .lss (.tmp 45) (.tmp 44), []⟩])
 (.seq (.cond (.tmp 46) (.skip) (.exit 0))
 (.seq (.block 1 (.seq (.reg false [⟨some 47, none, .mv (.tmp 45), []⟩,
 ⟨some 48, none, .iaS 4 (.tmp 43) (.tmp 45), []⟩,
 ⟨some 49, none, .load true 4 (.tmp 48), []⟩,
 ⟨some 9, none, .alloc 70 [.int .i64 0, .int .i64 0, .int .i64 0, .int .i64 0], []⟩,
 ⟨some 8, none, .mv (.tmp 47), []⟩,
 ⟨none, none, .store 4 (.tmp 9) (.tmp 49), []⟩])
 (.seq (.reg true [⟨some 50, none, .faddr 0 (.tmp 7), []⟩,
 ⟨some 51, none, .load false 1 (.tmp 50), [0]⟩,
 ⟨some 52, none, .mv (.tmp 8), []⟩,
 ⟨some 53, none, .iaA 4 1 (.tmp 4) (.tmp 52), [2]⟩,
 ⟨some 54, none, .load false 1 (.tmp 53), [3]⟩,
 ⟨some 55, none, .bin .add (.tmp 51) (.tmp 54), [1, 4]⟩,
 ⟨some 56, none, .faddr 0 (.tmp 7), [0, 1, 2, 3, 4, 5]⟩,
 ⟨none, none, .store 1 (.tmp 56) (.tmp 55), [6, 5, 0, 1, 2, 3, 4, 5]⟩])
 (.seq (.reg true [⟨some 57, none, .faddr 1 (.tmp 7), []⟩,
 ⟨some 58, none, .load false 1 (.tmp 57), [0]⟩,
 ⟨some 59, none, .mv (.tmp 8), []⟩,
 ⟨some 60, none, .iaA 4 1 (.tmp 4) (.tmp 59), [2]⟩,
 ⟨some 61, none, .load false 1 (.tmp 60), [3]⟩,
 ⟨some 62, none, .faddr 2 (.tmp 9), []⟩,
 ⟨some 63, none, .load false 1 (.tmp 62), [5]⟩,
 ⟨some 64, none, .bin .mul (.tmp 61) (.tmp 63), [4, 6]⟩,
 ⟨some 65, none, .bin .add (.tmp 58) (.tmp 64), [1, 7]⟩,
 ⟨some 66, none, .faddr 1 (.tmp 7), [0, 1, 2, 3, 4, 5, 6, 7, 8]⟩,
 ⟨none, none, .store 1 (.tmp 66) (.tmp 65), [9, 8, 0, 1, 2, 3, 4, 5, 6, 7, 8]⟩])
 (.reg true [⟨some 67, none, .faddr 2 (.tmp 7), []⟩,
 ⟨some 68, none, .load false 1 (.tmp 67), [0]⟩,
 ⟨some 69, none, .mv (.tmp 8), []⟩,
 ⟨some 70, none, .iaA 4 1 (.tmp 4) (.tmp 69), [2]⟩,
 ⟨some 71, none, .load false 1 (.tmp 70), [3]⟩,
 ⟨some 72, none, .faddr 3 (.tmp 9), []⟩,
 ⟨some 73, none, .load false 1 (.tmp 72), [5]⟩,
 ⟨some 74, none, .bin .mul (.tmp 71) (.tmp 73), [4, 6]⟩,
 ⟨some 75, none, .bin .add (.tmp 68) (.tmp 74), [1, 7]⟩,
 ⟨some 76, none, .faddr 2 (.tmp 7), [0, 1, 2, 3, 4, 5, 6, 7, 8]⟩,
 ⟨none, none, .store 1 (.tmp 76) (.tmp 75), [9, 8, 0, 1, 2, 3, 4, 5, 6, 7, 8]⟩])))))
 (.reg false [⟨some 77, none, .bin .add (.tmp 45) (.cst (.d (.int .i64 1))), []⟩,
 ⟨some 45, none, .mv (.tmp 77), []⟩])))))))
 (.seq (.reg false [⟨some 78, none, .load true 3 (.tmp 7), []⟩,
 ⟨none, none, .store 3 (.tmp 6) (.tmp 78), []⟩])
 (.ret))))))),
 [.cell true 3 6]⟩
theorem c95 : trF Tryd.prog Tryd.f95 = some i95 := by kernel_rfl
def i96 : IFun := ⟨2, .seq (.reg false [⟨some 0, none, .alloc 123 [.nilFn], []⟩])
 (.seq (.reg false [⟨some 1, none, .build [.nilFn] [(0, 1, .cst (.d (.fn 103)))], []⟩,
 ⟨none, none, .store 1 (.tmp 0) (.tmp 1), []⟩])
 (.ret)),
 [.cell true 1 0]⟩
theorem c96 : trF Tryd.prog Tryd.f96 = some i96 := by kernel_rfl
def i97 : IFun := ⟨28, .seq (.reg false [⟨some 1, none, .box 34 (.tmp 0), []⟩,
 ⟨some 2, none, .alloc 34 [.int .i64 0, .int .i64 0], []⟩])
 (.seq (.reg true [⟨some 5, none, .faddr 0 (.tmp 1), []⟩,
 ⟨some 6, none, .load false 1 (.tmp 5), [0]⟩,
 ⟨some 7, none, .faddr 0 (.tmp 1), []⟩,
 ⟨some 8, none, .load false 1 (.tmp 7), [2]⟩,
 ⟨some 9, none, .un .neg (.tmp 8), [3]⟩,
 ⟨some 10, none, .mm true [.tmp 6, .tmp 9], [1, 4]⟩,
 ⟨some 11, none, .faddr 1 (.tmp 1), []⟩,
 ⟨some 12, none, .load false 1 (.tmp 11), [6]⟩,
 ⟨some 3, none, .mv (.tmp 10), [5, 0, 1, 2, 3, 4, 5]⟩,
 ⟨some 4, none, .mv (.tmp 12), [7, 8, 0, 1, 2, 3, 4, 5, 6, 7, 8]⟩])
 (.seq (.block 0 (.loop (.seq (.seq (.reg false [⟨some 13, none, .mv (.tmp 3), []⟩,
 ⟨some 14, none, .bin .gtr (.tmp 13) (.cst (.d (.int .i64 0))), []⟩])
 (.cond (.tmp 14) (.skip) (.exit 0)))
 (.block 1 (.reg false [⟨some 15, none, .mv (.tmp 4), []⟩,
 ⟨some 16, none, .mv (.tmp 3), []⟩,
 ⟨some 17, none, .bin .rem (.tmp 15) (.tmp 16), []⟩,
 ⟨some 18, none, .mv (.tmp 3), []⟩,
 ⟨some 3, none, .mv (.tmp 17), []⟩,
 ⟨some 4, none, .mv (.tmp 18), []⟩])))))
 (.seq (.reg true [⟨some 19, none, .faddr 0 (.tmp 1), []⟩,
 ⟨some 20, none, .load false 1 (.tmp 19), [0]⟩,
 ⟨some 21, none, .mv (.tmp 4), []⟩,
 ⟨some 22, none, .bin .quo (.tmp 20) (.tmp 21), [1, 2]⟩,
 ⟨some 23, none, .faddr 1 (.tmp 1), []⟩,
 ⟨some 24, none, .load false 1 (.tmp 23), [4]⟩,
 ⟨some 25, none, .mv (.tmp 4), []⟩,
 ⟨some 26, none, .bin .quo (.tmp 24) (.tmp 25), [5, 6]⟩,
 ⟨some 27, none, .build [.int .i64 0, .int .i64 0] [(0, 1, .tmp 22), (1, 1, .tmp 26)], [3, 7]⟩,
 ⟨none, none, .store 2 (.tmp 2) (.tmp 27), [8, 0, 1, 2, 3, 4, 5, 6, 7, 8]⟩])
 (.ret)))),
 [.cell true 2 2]⟩
theorem c97 : trF Tryd.prog Tryd.f97 = some i97 := by kernel_rfl
def i98 : IFun := ⟨8, .seq (.reg false [⟨some 2, none, .box 126 (.tmp 0), []⟩])
 (.seq (.reg false [⟨some 3, none, .alloc 127 [.nilFn], []⟩])
 (.seq (.reg false [⟨some 4, none, .mkf 99 [] [.tmp 1, .tmp 2, .tmp 3], []⟩,
 ⟨none, none, .store 1 (.tmp 3) (.tmp 4), []⟩])
 (.reg true [⟨some 5, none, .load false 1 (.tmp 3), []⟩,
 ⟨some 6, none, .call 100 [], []⟩,
 ⟨some 7, none, .callv (.tmp 5) [.tmp 6, .cst (.d (.int .i64 0))], [0, 1, 1]⟩]))),
 []⟩
theorem c98 : trF Tryd.prog Tryd.f98 = some i98 := by kernel_rfl
def i99 : IFun := ⟨53, .seq (.reg false [⟨some 5, none, .box 92 (.tmp 0), []⟩,
 ⟨some 7, none, .mv (.cst (.d (.bool false))), []⟩])
 (.seq (.seq (.reg false [⟨some 10, none, .mv (.tmp 1), []⟩,
 ⟨some 11, none, .faddr 0 (.tmp 2), []⟩,
 ⟨some 12, none, .faddr 4 (.tmp 11), []⟩,
 ⟨some 13, none, .load false 1 (.tmp 12), []⟩,
 ⟨some 14, none, .len (.tmp 13), []⟩,
 ⟨some 15, none, .bin .eql (.tmp 10) (.tmp 14), []⟩])
 (.cond (.tmp 15) (.seq (.reg true [⟨some 16, none, .load true 4 (.tmp 5), []⟩,
 ⟨some 17, none, .call 100 [], []⟩,
 ⟨some 18, none, .aeq false 92 (.tmp 16) (.tmp 17), [0, 1]⟩,
 ⟨some 19, none, .mv (.tmp 18), [2, 1]⟩,
 ⟨some 20, some (19, false), .load false 1 (.tmp 3), [3]⟩,
 ⟨some 21, some (19, false), .load true 4 (.tmp 5), [3]⟩,
 ⟨some 22, some (19, false), .callv (.tmp 20) [.tmp 21], [4, 5, 3, 3]⟩,
 ⟨some 23, none, .pick (.tmp 19) (.cst (.d (.bool true))) (.tmp 22), [3, 6]⟩,
 ⟨some 7, none, .mv (.tmp 23), [7, 6, 0, 1, 2, 3, 4, 5, 6, 7]⟩])
 (.ret)) (.skip)))
 (.seq (.reg false [⟨some 24, none, .faddr 0 (.tmp 2), []⟩,
 ⟨some 25, none, .faddr 4 (.tmp 24), []⟩,
 ⟨some 26, none, .load false 1 (.tmp 25), []⟩,
 ⟨some 27, none, .mv (.tmp 1), []⟩,
 ⟨some 28, none, .iaS 4 (.tmp 26) (.tmp 27), []⟩,
 ⟨some 29, none, .faddr 0 (.tmp 28), []⟩,
 ⟨some 30, none, .load true 2 (.tmp 29), []⟩,
 ⟨some 8, none, .alloc 42 [.int .i64 0, .int .i64 0], []⟩,
 ⟨none, none, .store 2 (.tmp 8) (.tmp 30), []⟩])
 (.seq (.seq (.reg false [⟨some 31, none, .faddr 1 (.tmp 8), []⟩,
 ⟨some 32, none, .load false 1 (.tmp 31), []⟩,
 ⟨some 33, none, .faddr 0 (.tmp 8), []⟩,
 ⟨some 34, none, .load false 1 (.tmp 33), []⟩,
 ⟨some 35, none, .bin .sub (.tmp 32) (.tmp 34), []⟩,
 ⟨some 36, none, .bin .add (.tmp 35) (.cst (.d (.int .i64 1))), []⟩,
 ⟨some 37, none, .mv (.cst (.d (.int .i64 0))), []⟩])
 (.block 0 (.loop (.seq (.reg false [⟨some 38, none, .bin .lss (.tmp 37) (.tmp 36), []⟩])
 (.seq (.cond (.tmp 38) (.skip) (.exit 0))
 (.seq (.block 1 (.seq (.reg false [⟨some 39, none, .mv (.tmp 37), []⟩,
 ⟨some 9, none, .mv (.tmp 39), []⟩])
 (.seq (.reg false [⟨some 40, none, .mv (.tmp 1), []⟩,
 ⟨some 41, none, .faddr 0 (.tmp 8), []⟩,
 ⟨some 42, none, .load false 1 (.tmp 41), []⟩,
 ⟨some 43, none, .mv (.tmp 9), []⟩,
 ⟨some 44, none, .bin .add (.tmp 42) (.tmp 43), []⟩,
 ⟨some 45, none, .iaA 4 1 (.tmp 5) (.tmp 40), []⟩,
 ⟨none, none, .store 1 (.tmp 45) (.tmp 44), []⟩])
 (.seq (.reg false [⟨some 46, none, .load false 1 (.tmp 4), []⟩,
 ⟨some 47, none, .load true 4 (.tmp 5), []⟩,
 ⟨some 48, none, .mv (.tmp 1), []⟩,
 ⟨some 49, none, .bin .add (.tmp 48) (.cst (.d (.int .i64 1))), []⟩,
 ⟨some 50, none, .callv (.tmp 46) [.tmp 47, .tmp 49], []⟩,
 ⟨some 51, none, .un .not (.tmp 50), []⟩])
 (.cond (.tmp 51) (.seq (.reg false [⟨some 7, none, .mv (.cst (.d (.bool false))), []⟩])
 (.ret)) (.skip))))))
 (.reg false [⟨some 52, none, .bin .add (.tmp 37) (.cst (.d (.int .i64 1))), []⟩,
 ⟨some 37, none, .mv (.tmp 52), []⟩])))))))
 (.seq (.reg false [⟨some 7, none, .mv (.cst (.d (.bool true))), []⟩])
 (.ret))))),
 [.tmp 7]⟩
theorem c99 : trF Tryd.prog Tryd.f99 = some i99 := by kernel_rfl
def i100 : IFun := ⟨3, .seq (.reg false [⟨some 0, none, .alloc 92 [.int .i64 0, .int .i64 0, .int .i64 0, .int .i64 0], []⟩])
 (.seq (.reg false [⟨some 1, none, .alloc 92 [.int .i64 0, .int .i64 0, .int .i64 0, .int .i64 0], []⟩])
 (.seq (.reg false [⟨some 2, none, .load true 4 (.tmp 1), []⟩,
 ⟨none, none, .store 4 (.tmp 0) (.tmp 2), []⟩])
 (.ret))),
 [.cell true 4 0]⟩
theorem c100 : trF Tryd.prog Tryd.f100 = some i100 := by kernel_rfl
def i101 : IFun := ⟨9, .seq (.reg false [⟨some 4, none, .mv (.cst (.d (.bool false))), []⟩])
 (.seq (.reg false [⟨some 5, none, .mv (.tmp 0), []⟩,
 ⟨some 6, none, .mv (.tmp 1), []⟩,
 ⟨some 7, none, .call 104 [.tmp 5, .tmp 6], []⟩,
 ⟨some 8, none, .bin .geq (.tmp 7) (.cst (.d (.int .i64 0))), []⟩,
 ⟨some 4, none, .mv (.tmp 8), []⟩])
 (.ret)),
 [.tmp 4]⟩
theorem c101 : trF Tryd.prog Tryd.f101 = some i101 := by kernel_rfl
def i102 : IFun := ⟨29, .seq (.reg false [⟨some 2, none, .box 25 (.tmp 0), []⟩,
 ⟨some 4, none, .mv (.cst (.d (.bool false))), []⟩])
 (.seq (.seq (.reg false [⟨some 5, none, .mv (.cst (.d (.int .i64 0))), []⟩])
 (.block 0 (.loop (.seq (.seq (.reg false [⟨some 7, none, .mv (.tmp 5), []⟩,
 ⟨some 8, none, .faddr 9 (.tmp 2), []⟩,
 ⟨some 9, none, .load false 1 (.tmp 8), []⟩,
 ⟨some 10, none, .len (.tmp 9), []⟩,
 ⟨some 11, none, .bin .lss (.tmp 7) (.tmp 10), []⟩])
 (.cond (.tmp 11) (.skip) (.exit 0)))
 (.seq (.block 1 (.seq (.reg false [⟨some 14, none, .faddr 9 (.tmp 2), []⟩,
 ⟨some 15, none, .load false 1 (.tmp 14), []⟩,
 ⟨some 16, none, .mv (.tmp 5), []⟩,
 ⟨some 17, none, .iaS 3 (.tmp 15) (.tmp 16), []⟩,
 ⟨some 18, none, .load true 3 (.tmp 17), []⟩,
 ⟨some 6, none, .alloc 65 [.int .i64 0, .int .i64 0, .bool false], []⟩,
 ⟨none, none, .store 3 (.tmp 6) (.tmp 18), []⟩])
 (.seq (.reg true [⟨some 19, none, .load true 10 (.tmp 2), []⟩,
 ⟨some 20, none, .mv (.tmp 1), []⟩,
 ⟨some 21, none, .faddr 0 (.tmp 6), []⟩,
 ⟨some 22, none, .load false 1 (.tmp 21), [2]⟩,
 ⟨some 23, none, .faddr 1 (.tmp 6), []⟩,
 ⟨some 24, none, .load false 1 (.tmp 23), [4]⟩,
 ⟨some 25, none, .call 72 [.tmp 19, .tmp 20, .tmp 22, .tmp 24], [0, 1, 3, 5]⟩,
 ⟨some 26, none, .faddr 2 (.tmp 6), []⟩,
 ⟨some 27, none, .load false 1 (.tmp 26), [7]⟩,
 ⟨some 28, none, .beq true (.tmp 25) (.tmp 27), [6, 8]⟩])
 (.cond (.tmp 28) (.seq (.reg false [⟨some 4, none, .mv (.cst (.d (.bool false))), []⟩])
 (.ret)) (.skip)))))
 (.reg false [⟨some 12, none, .mv (.tmp 5), []⟩,
 ⟨some 13, none, .bin .add (.tmp 12) (.cst (.d (.int .i64 1))), []⟩,
 ⟨some 5, none, .mv (.tmp 13), []⟩]))))))
 (.seq (.reg false [⟨some 4, none, .mv (.cst (.d (.bool true))), []⟩])
 (.ret))),
 [.tmp 4]⟩
theorem c102 : trF Tryd.prog Tryd.f102 = some i102 := by kernel_rfl
def i103 : IFun := ⟨16, .seq (.reg false [⟨some 2, none, .box 34 (.tmp 0), []⟩,
 ⟨some 3, none, .box 34 (.tmp 1), []⟩,
 ⟨some 4, none, .mv (.cst (.d (.bool false))), []⟩])
 (.seq (.reg false [⟨some 5, none, .faddr 0 (.tmp 2), []⟩,
 ⟨some 6, none, .load false 1 (.tmp 5), []⟩,
 ⟨some 7, none, .faddr 1 (.tmp 3), []⟩,
 ⟨some 8, none, .load false 1 (.tmp 7), []⟩,
 ⟨some 9, none, .bin .mul (.tmp 6) (.tmp 8), []⟩,
 ⟨some 10, none, .faddr 0 (.tmp 3), []⟩,
 ⟨some 11, none, .load false 1 (.tmp 10), []⟩,
 ⟨some 12, none, .faddr 1 (.tmp 2), []⟩,
 ⟨some 13, none, .load false 1 (.tmp 12), []⟩,
 ⟨some 14, none, .bin .mul (.tmp 11) (.tmp 13), []⟩,
 ⟨some 15, none, .bin .lss (.tmp 9) (.tmp 14), []⟩,
 ⟨some 4, none, .mv (.tmp 15), []⟩])
 (.ret)),
 [.tmp 4]⟩
theorem c103 : trF Tryd.prog Tryd.f103 = some i103 := by kernel_rfl
def i104 : IFun := ⟨19, .seq (.reg false [⟨some 4, none, .mv (.cst (.d (.int .i64 0))), []⟩])
 (.seq (.seq (.reg false [⟨some 6, none, .mv (.tmp 0), []⟩,
 ⟨some 7, none, .len (.tmp 6), []⟩,
 ⟨some 8, none, .mv (.cst (.d (.int .i64 0))), []⟩])
 (.block 0 (.loop (.seq (.reg false [⟨some 9, none, .bin .lss (.tmp 8) (.tmp 7), []⟩])
 (.seq (.cond (.tmp 9) (.skip) (.exit 0))
 (.seq (.block 1 (.seq (.reg false [⟨some 10, none, .mv (.tmp 8), []⟩,
 ⟨some 5, none, .mv (.tmp 10), []⟩])
 (.seq (.reg false [⟨some 11, none, .mv (.tmp 1), []⟩,
 ⟨some 12, none, .mv (.tmp 0), []⟩,
 ⟨some 13, none, .mv (.tmp 5), []⟩,
 ⟨some 14, none, .iaS 1 (.tmp 12) (.tmp 13), []⟩,
 ⟨some 15, none, .load false 1 (.tmp 14), []⟩,
 ⟨some 16, none, .bin .eql (.tmp 11) (.tmp 15), []⟩])
 (.cond (.tmp 16) (.seq (.reg false [⟨some 17, none, .mv (.tmp 5), []⟩,
 ⟨some 4, none, .mv (.tmp 17), []⟩])
 (.ret)) (.skip)))))
 (.reg false [⟨some 18, none, .bin .add (.tmp 8) (.cst (.d (.int .i64 1))), []⟩,
 ⟨some 8, none, .mv (.tmp 18), []⟩])))))))
 (.seq (.reg false [⟨some 4, none, .mv (.cst (.d (.int .i64 (-1)))), []⟩])
 (.ret))),
 [.tmp 4]⟩
theorem c104 : trF Tryd.prog Tryd.f104 = some i104 := by kernel_rfl
def i121 : IFun := ⟨25, .seq (.reg false [⟨some 2, none, .box 83 (.tmp 0), []⟩,
 ⟨some 3, none, .box 80 (.tmp 1), []⟩,
 ⟨some 4, none, .mv (.cst (.d (.int .i64 0))), []⟩])
 (.seq (.reg false [⟨some 5, none, .faddr 0 (.tmp 2), []⟩,
 ⟨some 6, none, .faddr 2 (.tmp 5), []⟩,
 ⟨some 7, none, .load false 1 (.tmp 6), []⟩,
 ⟨some 8, none, .faddr 0 (.tmp 3), []⟩,
 ⟨some 9, none, .load false 1 (.tmp 8), []⟩,
 ⟨some 10, none, .bin .mul (.tmp 7) (.tmp 9), []⟩,
 ⟨some 11, none, .faddr 1 (.tmp 3), []⟩,
 ⟨some 12, none, .load false 1 (.tmp 11), []⟩,
 ⟨some 13, none, .bin .add (.tmp 10) (.tmp 12), []⟩,
 ⟨some 14, none, .faddr 0 (.tmp 2), []⟩,
 ⟨some 15, none, .faddr 1 (.tmp 14), []⟩,
 ⟨some 16, none, .load false 1 (.tmp 15), []⟩,
 ⟨some 17, none, .faddr 0 (.tmp 3), []⟩,
 ⟨some 18, none, .load false 1 (.tmp 17), []⟩,
 ⟨some 19, none, .bin .mul (.tmp 16) (.tmp 18), []⟩,
 ⟨some 20, none, .faddr 1 (.tmp 3), []⟩,
 ⟨some 21, none, .load false 1 (.tmp 20), []⟩,
 ⟨some 22, none, .bin .sub (.tmp 19) (.tmp 21), []⟩,
 ⟨some 23, none, .bsl 3 1 1 [.int .i64 0] [(0, 1, .tmp 22)], []⟩,
 ⟨some 24, none, .call 123 [.tmp 13, .tmp 23], []⟩,
 ⟨some 4, none, .mv (.tmp 24), []⟩])
 (.ret)),
 [.tmp 4]⟩
theorem c121 : trF Tryd.prog Tryd.f121 = some i121 := by kernel_rfl
def i122 : IFun := ⟨41, .seq (.reg false [⟨some 2, none, .box 83 (.tmp 0), []⟩,
 ⟨some 3, none, .box 80 (.tmp 1), []⟩,
 ⟨some 4, none, .mv (.cst (.d (.int .i64 0))), []⟩])
 (.seq (.reg false [⟨some 6, none, .faddr 0 (.tmp 2), []⟩,
 ⟨some 7, none, .faddr 3 (.tmp 6), []⟩,
 ⟨some 8, none, .load false 1 (.tmp 7), []⟩,
 ⟨some 9, none, .faddr 0 (.tmp 3), []⟩,
 ⟨some 10, none, .load false 1 (.tmp 9), []⟩,
 ⟨some 11, none, .bin .mul (.tmp 8) (.tmp 10), []⟩,
 ⟨some 12, none, .faddr 2 (.tmp 3), []⟩,
 ⟨some 13, none, .load false 1 (.tmp 12), []⟩,
 ⟨some 14, none, .bin .sub (.tmp 11) (.tmp 13), []⟩,
 ⟨some 5, none, .mv (.tmp 14), []⟩])
 (.seq (.reg false [⟨some 15, none, .faddr 0 (.tmp 2), []⟩,
 ⟨some 16, none, .faddr 2 (.tmp 15), []⟩,
 ⟨some 17, none, .load false 1 (.tmp 16), []⟩,
 ⟨some 18, none, .mv (.tmp 5), []⟩,
 ⟨some 19, none, .bin .mul (.tmp 17) (.tmp 18), []⟩,
 ⟨some 20, none, .faddr 0 (.tmp 2), []⟩,
 ⟨some 21, none, .faddr 3 (.tmp 20), []⟩,
 ⟨some 22, none, .load false 1 (.tmp 21), []⟩,
 ⟨some 23, none, .faddr 1 (.tmp 3), []⟩,
 ⟨some 24, none, .load false 1 (.tmp 23), []⟩,
 ⟨some 25, none, .bin .mul (.tmp 22) (.tmp 24), []⟩,
 ⟨some 26, none, .bin .add (.tmp 19) (.tmp 25), []⟩,
 ⟨some 27, none, .faddr 0 (.tmp 2), []⟩,
 ⟨some 28, none, .faddr 1 (.tmp 27), []⟩,
 ⟨some 29, none, .load false 1 (.tmp 28), []⟩,
 ⟨some 30, none, .mv (.tmp 5), []⟩,
 ⟨some 31, none, .bin .mul (.tmp 29) (.tmp 30), []⟩,
 ⟨some 32, none, .faddr 0 (.tmp 2), []⟩,
 ⟨some 33, none, .faddr 3 (.tmp 32), []⟩,
 ⟨some 34, none, .load false 1 (.tmp 33), []⟩,
 ⟨some 35, none, .faddr 1 (.tmp 3), []⟩,
 ⟨some 36, none, .load false 1 (.tmp 35), []⟩,
 ⟨some 37, none, .bin .mul (.tmp 34) (.tmp 36), []⟩,
 ⟨some 38, none, .bin .sub (.tmp 31) (.tmp 37), []⟩,
 ⟨some 39, none, .bsl 3 1 1 [.int .i64 0] [(0, 1, .tmp 38)], []⟩,
 ⟨some 40, none, .call 123 [.tmp 26, .tmp 39], []⟩,
 ⟨some 4, none, .mv (.tmp 40), []⟩])
 (.ret))),
 [.tmp 4]⟩
theorem c122 : trF Tryd.prog Tryd.f122 = some i122 := by kernel_rfl
def i123 : IFun := ⟨18, .seq (.reg false [⟨some 4, none, .mv (.cst (.d (.int .i64 0))), []⟩])
 (.seq (.seq (.reg false [⟨some 7, none, .mv (.tmp 1), []⟩,
 ⟨some 8, none, .len (.tmp 7), []⟩,
 ⟨some 9, none, .mv (.cst (.d (.int .i64 0))), []⟩])
 (.block 0 (.loop (.seq (.reg false [⟨some 10, none, .bin .lss (.tmp 9) (.tmp 8), []⟩])
 (.seq (.cond (.tmp 10) (.skip) (.exit 0))
 (.seq (.block 1 (.seq (.reg false [⟨some 11, none, .iaS 1 (.tmp 7) (.tmp 9), []⟩,
 ⟨some 12, none, .load false 1 (.tmp 11), []⟩,
 ⟨some 6, none, .mv (.tmp 12), []⟩])
 (.reg false [⟨some 13, none, .mv (.tmp 0), []⟩,
 ⟨some 14, none, .mv (.tmp 6), []⟩,
 ⟨some 15, none, .mm false [.tmp 13, .tmp 14], []⟩,
 ⟨some 0, none, .mv (.tmp 15), []⟩])))
 (.reg false [⟨some 16, none, .bin .add (.tmp 9) (.cst (.d (.int .i64 1))), []⟩,
 ⟨some 9, none, .mv (.tmp 16), []⟩])))))))
 (.seq (.reg false [⟨some 17, none, .mv (.tmp 0), []⟩,
 ⟨some 4, none, .mv (.tmp 17), []⟩])
 (.ret))),
 [.tmp 4]⟩
theorem c123 : trF Tryd.prog Tryd.f123 = some i123 := by kernel_rfl
end Go.Proofs.Tz
