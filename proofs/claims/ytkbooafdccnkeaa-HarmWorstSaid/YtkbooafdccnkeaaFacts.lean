/- Facts about the program's types and functions. By program. -/
import Derived.Test.YtkbooafdccnkeaaReps
import Derived.Test.YtkbooafdccnkeaaRows
namespace Go.Proofs.Ytkbooafdccnkeaa
open Go.RowKit
theorem st_25 : stL Try.prog 25 = some ([(0, 1), (1, 1), (2, 1), (3, 1)], [.int .i64 0, .int .i64 0, .int .i64 0, .int .i64 0]) := by kernel_rfl
theorem zc_25 : zcells Try.prog 25 = some [.int .i64 0, .int .i64 0, .int .i64 0, .int .i64 0] := by kernel_rfl
theorem ty_25 : tyB Try.prog 25 4 true = true := by kernel_rfl
theorem st_33 : stL Try.prog 33 = some ([(0, 1), (1, 1)], [.int .i64 0, .int .i64 0]) := by kernel_rfl
theorem el_34 : elL Try.prog 34 = some (33, 2, 16, [.int .i64 0, .int .i64 0]) := by kernel_rfl
theorem st_37 : stL Try.prog 37 = some ([(0, 1), (1, 1), (2, 1), (3, 1), (4, 1), (5, 1), (6, 1), (7, 1), (8, 1), (9, 1), (10, 1), (11, 1)], [.string ByteArray.empty, .int .i64 0, .int .i64 0, .int .i64 0, .slice none 0 0, .slice none 0 0, .int .i64 0, .int .i64 0, .int .i64 0, .int .i64 0, .int .i64 0, .slice none 0 0]) := by kernel_rfl
theorem el_38 : elL Try.prog 38 = some (37, 12, 152, [.string ByteArray.empty, .int .i64 0, .int .i64 0, .int .i64 0, .slice none 0 0, .slice none 0 0, .int .i64 0, .int .i64 0, .int .i64 0, .int .i64 0, .int .i64 0, .slice none 0 0]) := by kernel_rfl
theorem st_40 : stL Try.prog 40 = some ([(0, 1), (1, 1), (2, 1), (3, 1), (4, 1), (5, 1), (6, 1)], [.string ByteArray.empty, .int .i64 0, .int .i64 0, .int .i64 0, .int .i64 0, .int .i64 0, .int .i64 0]) := by kernel_rfl
theorem el_41 : elL Try.prog 41 = some (40, 7, 64, [.string ByteArray.empty, .int .i64 0, .int .i64 0, .int .i64 0, .int .i64 0, .int .i64 0, .int .i64 0]) := by kernel_rfl
theorem st_48 : stL Try.prog 48 = some ([(0, 1), (1, 1), (2, 1), (3, 1), (4, 1), (5, 1), (6, 1), (7, 1), (8, 1), (9, 1), (10, 1)], [.string ByteArray.empty, .slice none 0 0, .int .i64 0, .slice none 0 0, .slice none 0 0, .slice none 0 0, .slice none 0 0, .slice none 0 0, .slice none 0 0, .slice none 0 0, .int .i64 0]) := by kernel_rfl
theorem zc_48 : zcells Try.prog 48 = some [.string ByteArray.empty, .slice none 0 0, .int .i64 0, .slice none 0 0, .slice none 0 0, .slice none 0 0, .slice none 0 0, .slice none 0 0, .slice none 0 0, .slice none 0 0, .int .i64 0] := by kernel_rfl
theorem ty_48 : tyB Try.prog 48 11 true = true := by kernel_rfl
theorem st_54 : stL Try.prog 54 = some ([(0, 1), (1, 1), (2, 1), (3, 1)], [.int .i64 0, .slice none 0 0, .slice none 0 0, .slice none 0 0]) := by kernel_rfl
theorem st_56 : stL Try.prog 56 = some ([(0, 1), (1, 1)], [.int .i64 0, .int .i64 0]) := by kernel_rfl
theorem el_50 : elL Try.prog 50 = some (56, 2, 16, [.int .i64 0, .int .i64 0]) := by kernel_rfl
theorem fa_54_3 : faB Try.prog 54 3 3 = true := by kernel_rfl
theorem ty_52 : tyB Try.prog 52 1 false = true := by kernel_rfl
theorem sl_52 : slB Try.prog 52 61 5 = true := by kernel_rfl
theorem fa_56_0 : faB Try.prog 56 0 0 = true := by kernel_rfl
theorem ty_3 : tyB Try.prog 3 1 false = true := by kernel_rfl
theorem fa_56_1 : faB Try.prog 56 1 1 = true := by kernel_rfl
theorem ca_22 : callB Try.prog 22 = true := by kernel_rfl
theorem mo : Try.prog.follows .mixedOrders = true := by kernel_rfl
theorem ca_21 : callB Try.prog 21 = true := by kernel_rfl
theorem fa_61_0 : faB Try.prog 61 0 0 = true := by kernel_rfl
theorem ty_56 : tyB Try.prog 56 2 true = true := by kernel_rfl
theorem ca_13 : callB Try.prog 13 = true := by kernel_rfl
theorem ca_12 : callB Try.prog 12 = true := by kernel_rfl
theorem fa_48_5 : faB Try.prog 48 5 5 = true := by kernel_rfl
theorem ty_41 : tyB Try.prog 41 1 false = true := by kernel_rfl
theorem sl_41 : slB Try.prog 41 40 7 = true := by kernel_rfl
theorem ty_40 : tyB Try.prog 40 7 true = true := by kernel_rfl
theorem zc_40 : zcells Try.prog 40 = some [.string ByteArray.empty, .int .i64 0, .int .i64 0, .int .i64 0, .int .i64 0, .int .i64 0, .int .i64 0] := by kernel_rfl
theorem fa_40_1 : faB Try.prog 40 1 1 = true := by kernel_rfl
theorem fa_40_2 : faB Try.prog 40 2 2 = true := by kernel_rfl
theorem fa_48_3 : faB Try.prog 48 3 3 = true := by kernel_rfl
theorem ty_38 : tyB Try.prog 38 1 false = true := by kernel_rfl
theorem sl_38 : slB Try.prog 38 37 12 = true := by kernel_rfl
theorem fa_37_1 : faB Try.prog 37 1 1 = true := by kernel_rfl
theorem fa_37_10 : faB Try.prog 37 10 10 = true := by kernel_rfl
theorem ty_50 : tyB Try.prog 50 1 false = true := by kernel_rfl
theorem sl_50 : slB Try.prog 50 56 2 = true := by kernel_rfl
theorem ca_15 : callB Try.prog 15 = true := by kernel_rfl
theorem ca_14 : callB Try.prog 14 = true := by kernel_rfl
theorem ca_17 : callB Try.prog 17 = true := by kernel_rfl
theorem ca_16 : callB Try.prog 16 = true := by kernel_rfl
theorem fa_54_1 : faB Try.prog 54 1 1 = true := by kernel_rfl
theorem ca_19 : callB Try.prog 19 = true := by kernel_rfl
theorem ca_18 : callB Try.prog 18 = true := by kernel_rfl
theorem ca_9 : callB Try.prog 9 = true := by kernel_rfl
theorem ca_20 : callB Try.prog 20 = true := by kernel_rfl
theorem fa_25_0 : faB Try.prog 25 0 0 = true := by kernel_rfl
theorem ca_11 : callB Try.prog 11 = true := by kernel_rfl
theorem fa_25_1 : faB Try.prog 25 1 1 = true := by kernel_rfl
theorem fa_25_2 : faB Try.prog 25 2 2 = true := by kernel_rfl
theorem fa_25_3 : faB Try.prog 25 3 3 = true := by kernel_rfl
theorem el_29 : elL Try.prog 29 = some (3, 1, 8, [.int .i64 0]) := by kernel_rfl
theorem sl_29 : slB Try.prog 29 3 1 = true := by kernel_rfl
theorem ca_10 : callB Try.prog 10 = true := by kernel_rfl
theorem ca_7 : callB Try.prog 7 = true := by kernel_rfl
theorem el_22 : elL Try.prog 22 = some (25, 4, 32, [.int .i64 0, .int .i64 0, .int .i64 0, .int .i64 0]) := by kernel_rfl
theorem sl_22 : slB Try.prog 22 25 4 = true := by kernel_rfl
theorem ca_6 : callB Try.prog 6 = true := by kernel_rfl
theorem fl_25 : flL Try.prog 25 = some [1, 1, 1, 1] := by kernel_rfl
theorem ca_5 : callB Try.prog 5 = true := by kernel_rfl
theorem ub_4 : Try.prog.underlying 4 = some .bool := by kernel_rfl
theorem ca_8 : callB Try.prog 8 = true := by kernel_rfl
end Go.Proofs.Ytkbooafdccnkeaa
