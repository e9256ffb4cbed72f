/- Facts on types. -/
import Derived.Test.YtgnjppialaajcaaReps
import Derived.Test.YtgnjppialaajcaaRows
namespace Go.Proofs.Ytgnjppialaajcaa
open Go.RowKit
set_option linter.unusedSimpArgs false
set_option linter.unusedVariables false

theorem fa_32_0 : faB Try.prog 32 0 0 = true := by kernel_rfl
theorem ty_3 : tyB Try.prog 3 1 false = true := by kernel_rfl
theorem fa_23_3 : faB Try.prog 23 3 3 = true := by kernel_rfl
theorem fa_32_1 : faB Try.prog 32 1 1 = true := by kernel_rfl
theorem ty_4 : tyB Try.prog 4 1 false = true := by kernel_rfl
theorem zc_25 : zcells Try.prog 25 = some [.int .i64 0, .int .i64 0, .int .i64 0] := by kernel_rfl
theorem ty_23 : tyB Try.prog 23 7 true = true := by kernel_rfl
theorem ty_32 : tyB Try.prog 32 2 true = true := by kernel_rfl
theorem ca_12 : callB Try.prog 12 = true := by kernel_rfl
theorem fa_25_0 : faB Try.prog 25 0 0 = true := by kernel_rfl
theorem st_25 : stL Try.prog 25 = some ([(0, 1), (1, 1), (2, 1)], [.int .i64 0, .int .i64 0, .int .i64 0]) := by kernel_rfl
theorem ty_25 : tyB Try.prog 25 3 true = true := by kernel_rfl
theorem fa_25_1 : faB Try.prog 25 1 1 = true := by kernel_rfl
theorem fa_25_2 : faB Try.prog 25 2 2 = true := by kernel_rfl
theorem ca_11 : callB Try.prog 11 = true := by kernel_rfl
theorem sl_26 : slB Try.prog 26 32 2 = true := by kernel_rfl
theorem el_28 : elL Try.prog 28 = some (25, 3, 24, [.int .i64 0, .int .i64 0, .int .i64 0]) := by kernel_rfl
theorem zc_32 : zcells Try.prog 32 = some [.int .i64 0, .bool false] := by kernel_rfl
theorem ca_9 : callB Try.prog 9 = true := by kernel_rfl
theorem mo : Try.prog.follows .mixedOrders = true := by kernel_rfl
theorem ca_10 : callB Try.prog 10 = true := by kernel_rfl
theorem st_23 : stL Try.prog 23 = some ([(0, 1), (1, 1), (2, 1), (3, 1), (4, 1), (5, 1), (6, 1)], [.string ByteArray.empty, .int .i64 0, .int .i64 0, .int .i64 0, .int .i64 0, .int .i64 0, .int .i64 0]) := by kernel_rfl
theorem zc_23 : zcells Try.prog 23 = some [.string ByteArray.empty, .int .i64 0, .int .i64 0, .int .i64 0, .int .i64 0, .int .i64 0, .int .i64 0] := by kernel_rfl
theorem st_32 : stL Try.prog 32 = some ([(0, 1), (1, 1)], [.int .i64 0, .bool false]) := by kernel_rfl
theorem el_26 : elL Try.prog 26 = some (32, 2, 16, [.int .i64 0, .bool false]) := by kernel_rfl
theorem ca_7 : callB Try.prog 7 = true := by kernel_rfl
theorem el_36 : elL Try.prog 36 = some (3, 1, 8, [.int .i64 0]) := by kernel_rfl
theorem sl_36 : slB Try.prog 36 3 1 = true := by kernel_rfl
theorem sl_28 : slB Try.prog 28 25 3 = true := by kernel_rfl
theorem ca_6 : callB Try.prog 6 = true := by kernel_rfl
theorem ca_8 : callB Try.prog 8 = true := by kernel_rfl
theorem fl_25 : flL Try.prog 25 = some [1, 1, 1] := by kernel_rfl
end Go.Proofs.Ytgnjppialaajcaa
