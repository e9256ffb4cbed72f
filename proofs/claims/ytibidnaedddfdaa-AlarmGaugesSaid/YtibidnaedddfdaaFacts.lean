/- Facts about the program's types and functions. By program. -/
import Derived.Test.YtibidnaedddfdaaReps
import Derived.Test.YtibidnaedddfdaaRows
namespace Go.Proofs.Ytibidnaedddfdaa
open Go.RowKit
theorem st_41 : stL Try.prog 41 = some ([(0, 1), (1, 1), (2, 1), (3, 1), (4, 1), (5, 1), (6, 1)], [.string ByteArray.empty, .int .i64 0, .int .i64 0, .int .i64 0, .int .i64 0, .int .i64 0, .int .i64 0]) := by kernel_rfl
theorem zc_41 : zcells Try.prog 41 = some [.string ByteArray.empty, .int .i64 0, .int .i64 0, .int .i64 0, .int .i64 0, .int .i64 0, .int .i64 0] := by kernel_rfl
theorem ty_41 : tyB Try.prog 41 7 true = true := by kernel_rfl
theorem st_52 : stL Try.prog 52 = some ([(0, 1), (1, 1)], [.int .i64 0, .bool false]) := by kernel_rfl
theorem el_53 : elL Try.prog 53 = some (52, 2, 16, [.int .i64 0, .bool false]) := by kernel_rfl
theorem sl_53 : slB Try.prog 53 52 2 = true := by kernel_rfl
theorem el_49 : elL Try.prog 49 = some (55, 3, 24, [.int .i64 0, .int .i64 0, .int .i64 0]) := by kernel_rfl
theorem st_55 : stL Try.prog 55 = some ([(0, 1), (1, 1), (2, 1)], [.int .i64 0, .int .i64 0, .int .i64 0]) := by kernel_rfl
theorem zc_55 : zcells Try.prog 55 = some [.int .i64 0, .int .i64 0, .int .i64 0] := by kernel_rfl
theorem ty_55 : tyB Try.prog 55 3 true = true := by kernel_rfl
theorem fa_52_0 : faB Try.prog 52 0 0 = true := by kernel_rfl
theorem ty_3 : tyB Try.prog 3 1 false = true := by kernel_rfl
theorem fa_41_3 : faB Try.prog 41 3 3 = true := by kernel_rfl
theorem fa_52_1 : faB Try.prog 52 1 1 = true := by kernel_rfl
theorem ty_4 : tyB Try.prog 4 1 false = true := by kernel_rfl
theorem ty_52 : tyB Try.prog 52 2 true = true := by kernel_rfl
theorem ca_41 : callB Try.prog 41 = true := by kernel_rfl
theorem fa_55_0 : faB Try.prog 55 0 0 = true := by kernel_rfl
theorem fa_55_1 : faB Try.prog 55 1 1 = true := by kernel_rfl
theorem fa_55_2 : faB Try.prog 55 2 2 = true := by kernel_rfl
theorem zc_52 : zcells Try.prog 52 = some [.int .i64 0, .bool false] := by kernel_rfl
theorem ca_25 : callB Try.prog 25 = true := by kernel_rfl
theorem ca_10 : callB Try.prog 10 = true := by kernel_rfl
theorem el_29 : elL Try.prog 29 = some (3, 1, 8, [.int .i64 0]) := by kernel_rfl
theorem sl_29 : slB Try.prog 29 3 1 = true := by kernel_rfl
theorem mo : Try.prog.follows .mixedOrders = true := by kernel_rfl
theorem sl_49 : slB Try.prog 49 55 3 = true := by kernel_rfl
theorem ca_4 : callB Try.prog 4 = true := by kernel_rfl
theorem fa_31_3 : faB Try.prog 31 3 3 = true := by kernel_rfl
theorem ty_23 : tyB Try.prog 23 1 false = true := by kernel_rfl
theorem sl_23 : slB Try.prog 23 70 12 = true := by kernel_rfl
theorem fa_31_4 : faB Try.prog 31 4 4 = true := by kernel_rfl
theorem ty_24 : tyB Try.prog 24 1 false = true := by kernel_rfl
theorem sl_24 : slB Try.prog 24 85 18 = true := by kernel_rfl
theorem sl_56 : slB Try.prog 56 135 3 = true := by kernel_rfl
theorem sl_57 : slB Try.prog 57 63 5 = true := by kernel_rfl
theorem fa_63_1 : faB Try.prog 63 1 1 = true := by kernel_rfl
theorem ty_58 : tyB Try.prog 58 1 false = true := by kernel_rfl
theorem sl_58 : slB Try.prog 58 137 2 = true := by kernel_rfl
theorem fa_63_2 : faB Try.prog 63 2 2 = true := by kernel_rfl
theorem ty_59 : tyB Try.prog 59 1 false = true := by kernel_rfl
theorem sl_59 : slB Try.prog 59 139 2 = true := by kernel_rfl
theorem fa_63_3 : faB Try.prog 63 3 3 = true := by kernel_rfl
theorem ty_60 : tyB Try.prog 60 1 false = true := by kernel_rfl
theorem sl_60 : slB Try.prog 60 141 4 = true := by kernel_rfl
theorem fa_63_4 : faB Try.prog 63 4 4 = true := by kernel_rfl
theorem ty_61 : tyB Try.prog 61 1 false = true := by kernel_rfl
theorem sl_61 : slB Try.prog 61 143 4 = true := by kernel_rfl
theorem fa_63_0 : faB Try.prog 63 0 0 = true := by kernel_rfl
theorem ty_29 : tyB Try.prog 29 1 false = true := by kernel_rfl
theorem ty_31 : tyB Try.prog 31 11 true = true := by kernel_rfl
theorem ca_5 : callB Try.prog 5 = true := by kernel_rfl
theorem fa_31_0 : faB Try.prog 31 0 0 = true := by kernel_rfl
theorem ty_9 : tyB Try.prog 9 1 false = true := by kernel_rfl
theorem us_9 : Try.prog.underlying 9 = some .string := by kernel_rfl
theorem fa_31_1 : faB Try.prog 31 1 1 = true := by kernel_rfl
theorem ty_22 : tyB Try.prog 22 1 false = true := by kernel_rfl
theorem sl_22 : slB Try.prog 22 9 1 = true := by kernel_rfl
theorem ca_26 : callB Try.prog 26 = true := by kernel_rfl
theorem fa_31_2 : faB Try.prog 31 2 2 = true := by kernel_rfl
theorem fa_31_5 : faB Try.prog 31 5 5 = true := by kernel_rfl
theorem ty_25 : tyB Try.prog 25 1 false = true := by kernel_rfl
theorem sl_25 : slB Try.prog 25 41 7 = true := by kernel_rfl
theorem fa_31_6 : faB Try.prog 31 6 6 = true := by kernel_rfl
theorem ty_26 : tyB Try.prog 26 1 false = true := by kernel_rfl
theorem sl_26 : slB Try.prog 26 44 5 = true := by kernel_rfl
theorem fa_31_7 : faB Try.prog 31 7 7 = true := by kernel_rfl
theorem ty_27 : tyB Try.prog 27 1 false = true := by kernel_rfl
theorem sl_27 : slB Try.prog 27 89 7 = true := by kernel_rfl
theorem fa_31_8 : faB Try.prog 31 8 8 = true := by kernel_rfl
theorem ty_28 : tyB Try.prog 28 1 false = true := by kernel_rfl
theorem sl_28 : slB Try.prog 28 87 2 = true := by kernel_rfl
theorem fa_31_9 : faB Try.prog 31 9 9 = true := by kernel_rfl
theorem fa_31_10 : faB Try.prog 31 10 10 = true := by kernel_rfl
theorem ca_27 : callB Try.prog 27 = true := by kernel_rfl
theorem zc_79 : zcells Try.prog 79 = some [.map none] := by kernel_rfl
theorem ty_79 : tyB Try.prog 79 1 false = true := by kernel_rfl
theorem zc_4 : zcells Try.prog 4 = some [.bool false] := by kernel_rfl
theorem st_104 : stL Try.prog 104 = some ([(0, 1), (1, 1)], [.string ByteArray.empty, .string ByteArray.empty]) := by kernel_rfl
theorem zc_104 : zcells Try.prog 104 = some [.string ByteArray.empty, .string ByteArray.empty] := by kernel_rfl
theorem ty_104 : tyB Try.prog 104 2 true = true := by kernel_rfl
theorem ca_42 : callB Try.prog 42 = true := by kernel_rfl
theorem um_79 : Try.prog.underlying 79 = some (.map 104 4) := by kernel_rfl
theorem fl_104 : flL Try.prog 104 = some [3, 3] := by kernel_rfl
theorem kok_104 : KeyOK Try.prog 104 (fun k : Gbasin_mark => Value.agg (Gbasin_mark.v k).toArray) := KeyOK.agg (f := Gbasin_mark.v) Try.underlying104 fl_104 (fun k => rfl) (fun a b => rfl) (fun k e w => by kernel_rfl) (fun a b h => by
  simp only [Gbasin_mark.v, eqC, eqV, Bool.and_eq_true, ba_beq, decide_eq_true_eq, beq_iff_eq] at h
  simp [Gbasin_mark.v, h]) (fun a => by simp [Instr.sameBits, Gbasin_mark.v, ba_beq.2])
theorem zv_4 : ∀ w, (zeroValue 4).run Try.prog w = .ok (.bool false) w := fun w => by kernel_rfl
theorem ca_29 : callB Try.prog 29 = true := by kernel_rfl
theorem ca_28 : callB Try.prog 28 = true := by kernel_rfl
theorem ty_70 : tyB Try.prog 70 12 true = true := by kernel_rfl
theorem zc_70 : zcells Try.prog 70 = some [.string ByteArray.empty, .int .i64 0, .int .i64 0, .int .i64 0, .slice none 0 0, .slice none 0 0, .int .i64 0, .int .i64 0, .int .i64 0, .int .i64 0, .int .i64 0, .slice none 0 0] := by kernel_rfl
theorem fa_70_0 : faB Try.prog 70 0 0 = true := by kernel_rfl
theorem ty_85 : tyB Try.prog 85 18 true = true := by kernel_rfl
theorem zc_85 : zcells Try.prog 85 = some [.string ByteArray.empty, .int .i64 0, .int .i64 0, .int .i64 0, .slice none 0 0, .slice none 0 0, .slice none 0 0, .int .i64 0, .int .i64 0, .int .i64 0, .int .i64 0, .int .i64 0, .int .i64 0, .int .i64 0, .int .i64 0, .int .i64 0, .int .i64 0, .int .i64 0] := by kernel_rfl
theorem fa_85_0 : faB Try.prog 85 0 0 = true := by kernel_rfl
theorem fa_41_0 : faB Try.prog 41 0 0 = true := by kernel_rfl
theorem ty_87 : tyB Try.prog 87 2 true = true := by kernel_rfl
theorem zc_87 : zcells Try.prog 87 = some [.string ByteArray.empty, .int .i64 0] := by kernel_rfl
theorem fa_87_0 : faB Try.prog 87 0 0 = true := by kernel_rfl
theorem ty_44 : tyB Try.prog 44 5 true = true := by kernel_rfl
theorem zc_44 : zcells Try.prog 44 = some [.string ByteArray.empty, .int .i64 0, .int .i64 0, .int .i64 0, .int .i64 0] := by kernel_rfl
theorem fa_44_0 : faB Try.prog 44 0 0 = true := by kernel_rfl
theorem ty_89 : tyB Try.prog 89 7 true = true := by kernel_rfl
theorem zc_89 : zcells Try.prog 89 = some [.string ByteArray.empty, .int .i64 0, .int .i64 0, .int .i64 0, .int .i64 0, .int .i64 0, .int .i64 0] := by kernel_rfl
theorem fa_89_0 : faB Try.prog 89 0 0 = true := by kernel_rfl
theorem sl_67 : slB Try.prog 67 98 2 = true := by kernel_rfl
theorem ty_98 : tyB Try.prog 98 2 true = true := by kernel_rfl
theorem zc_98 : zcells Try.prog 98 = some [.int .i64 0, .int .i64 0] := by kernel_rfl
theorem fa_98_0 : faB Try.prog 98 0 0 = true := by kernel_rfl
theorem fa_98_1 : faB Try.prog 98 1 1 = true := by kernel_rfl
theorem ca_32 : callB Try.prog 32 = true := by kernel_rfl
theorem fa_70_1 : faB Try.prog 70 1 1 = true := by kernel_rfl
theorem fa_70_2 : faB Try.prog 70 2 2 = true := by kernel_rfl
theorem fa_70_9 : faB Try.prog 70 9 9 = true := by kernel_rfl
theorem fa_70_3 : faB Try.prog 70 3 3 = true := by kernel_rfl
theorem fa_70_10 : faB Try.prog 70 10 10 = true := by kernel_rfl
theorem fa_70_4 : faB Try.prog 70 4 4 = true := by kernel_rfl
theorem ty_67 : tyB Try.prog 67 1 false = true := by kernel_rfl
theorem ca_21 : callB Try.prog 21 = true := by kernel_rfl
theorem fa_70_5 : faB Try.prog 70 5 5 = true := by kernel_rfl
theorem fa_70_6 : faB Try.prog 70 6 6 = true := by kernel_rfl
theorem fa_70_7 : faB Try.prog 70 7 7 = true := by kernel_rfl
theorem ca_30 : callB Try.prog 30 = true := by kernel_rfl
theorem fa_70_8 : faB Try.prog 70 8 8 = true := by kernel_rfl
theorem ca_31 : callB Try.prog 31 = true := by kernel_rfl
theorem fa_70_11 : faB Try.prog 70 11 11 = true := by kernel_rfl
theorem ty_68 : tyB Try.prog 68 1 false = true := by kernel_rfl
theorem sl_68 : slB Try.prog 68 93 2 = true := by kernel_rfl
theorem ty_93 : tyB Try.prog 93 2 true = true := by kernel_rfl
theorem zc_93 : zcells Try.prog 93 = some [.int .i64 0, .int .i64 0] := by kernel_rfl
theorem fa_93_0 : faB Try.prog 93 0 0 = true := by kernel_rfl
theorem fa_93_1 : faB Try.prog 93 1 1 = true := by kernel_rfl
theorem fa_85_1 : faB Try.prog 85 1 1 = true := by kernel_rfl
theorem uk_3 : Try.prog.underlying 3 = some (.int .i64) := by kernel_rfl
theorem uk_112 : Try.prog.underlying 112 = some (.int .u64) := by kernel_rfl
theorem ca_48 : callB Try.prog 48 = true := by kernel_rfl
theorem ca_38 : callB Try.prog 38 = true := by kernel_rfl
theorem uk_107 : Try.prog.underlying 107 = some (.int .u64) := by kernel_rfl
theorem ca_44 : callB Try.prog 44 = true := by kernel_rfl
theorem uk_5 : Try.prog.underlying 5 = some (.int .u8) := by kernel_rfl
theorem ca_49 : callB Try.prog 49 = true := by kernel_rfl
theorem ca_47 : callB Try.prog 47 = true := by kernel_rfl
theorem ca_45 : callB Try.prog 45 = true := by kernel_rfl
theorem ca_40 : callB Try.prog 40 = true := by kernel_rfl
theorem ca_46 : callB Try.prog 46 = true := by kernel_rfl
theorem fa_85_4 : faB Try.prog 85 4 4 = true := by kernel_rfl
theorem fa_85_5 : faB Try.prog 85 5 5 = true := by kernel_rfl
theorem fa_83_0 : faB Try.prog 83 0 0 = true := by kernel_rfl
theorem fa_83_1 : faB Try.prog 83 1 1 = true := by kernel_rfl
theorem ca_43 : callB Try.prog 43 = true := by kernel_rfl
theorem fa_85_6 : faB Try.prog 85 6 7 = true := by kernel_rfl
theorem fa_85_7 : faB Try.prog 85 7 8 = true := by kernel_rfl
theorem fa_85_8 : faB Try.prog 85 8 9 = true := by kernel_rfl
theorem fa_85_14 : faB Try.prog 85 14 15 = true := by kernel_rfl
theorem fa_85_15 : faB Try.prog 85 15 16 = true := by kernel_rfl
theorem fa_85_3 : faB Try.prog 85 3 3 = true := by kernel_rfl
theorem fa_85_9 : faB Try.prog 85 9 10 = true := by kernel_rfl
theorem fa_85_10 : faB Try.prog 85 10 11 = true := by kernel_rfl
theorem fa_85_11 : faB Try.prog 85 11 12 = true := by kernel_rfl
theorem fa_85_12 : faB Try.prog 85 12 13 = true := by kernel_rfl
theorem fa_85_13 : faB Try.prog 85 13 14 = true := by kernel_rfl
theorem fa_85_2 : faB Try.prog 85 2 2 = true := by kernel_rfl
theorem fa_85_16 : faB Try.prog 85 16 17 = true := by kernel_rfl
theorem ca_33 : callB Try.prog 33 = true := by kernel_rfl
theorem ca_34 : callB Try.prog 34 = true := by kernel_rfl
theorem ca_35 : callB Try.prog 35 = true := by kernel_rfl
theorem ca_36 : callB Try.prog 36 = true := by kernel_rfl
theorem sl_111 : slB Try.prog 111 67 1 = true := by kernel_rfl
theorem el_111 : elL Try.prog 111 = some (67, 1, 24, [.slice none 0 0]) := by kernel_rfl
theorem ca_37 : callB Try.prog 37 = true := by kernel_rfl
theorem fa_41_1 : faB Try.prog 41 1 1 = true := by kernel_rfl
theorem fa_41_2 : faB Try.prog 41 2 2 = true := by kernel_rfl
theorem fa_41_4 : faB Try.prog 41 4 4 = true := by kernel_rfl
theorem fa_41_5 : faB Try.prog 41 5 5 = true := by kernel_rfl
theorem fa_41_6 : faB Try.prog 41 6 6 = true := by kernel_rfl
theorem fa_87_1 : faB Try.prog 87 1 1 = true := by kernel_rfl
theorem fa_44_1 : faB Try.prog 44 1 1 = true := by kernel_rfl
theorem fa_44_3 : faB Try.prog 44 3 3 = true := by kernel_rfl
theorem fa_44_4 : faB Try.prog 44 4 4 = true := by kernel_rfl
theorem al_96 : arL Try.prog 96 = some ([(0, 1), (1, 1), (2, 1)], [.int .i64 0, .int .i64 0, .int .i64 0]) := by kernel_rfl
theorem zc_96 : zcells Try.prog 96 = some [.int .i64 0, .int .i64 0, .int .i64 0] := by kernel_rfl
theorem ty_96 : tyB Try.prog 96 3 true = true := by kernel_rfl
theorem fa_44_2 : faB Try.prog 44 2 2 = true := by kernel_rfl
theorem ar_96 : arB Try.prog 96 3 1 = true := by kernel_rfl
theorem fa_89_1 : faB Try.prog 89 1 1 = true := by kernel_rfl
theorem fa_89_2 : faB Try.prog 89 2 2 = true := by kernel_rfl
theorem fa_89_3 : faB Try.prog 89 3 3 = true := by kernel_rfl
theorem fa_89_4 : faB Try.prog 89 4 4 = true := by kernel_rfl
theorem fa_89_6 : faB Try.prog 89 6 6 = true := by kernel_rfl
theorem fa_89_5 : faB Try.prog 89 5 5 = true := by kernel_rfl
theorem ca_11 : callB Try.prog 11 = true := by kernel_rfl
theorem ca_12 : callB Try.prog 12 = true := by kernel_rfl
theorem ca_13 : callB Try.prog 13 = true := by kernel_rfl
theorem ca_14 : callB Try.prog 14 = true := by kernel_rfl
theorem ca_15 : callB Try.prog 15 = true := by kernel_rfl
theorem ca_16 : callB Try.prog 16 = true := by kernel_rfl
theorem ca_17 : callB Try.prog 17 = true := by kernel_rfl
theorem ca_18 : callB Try.prog 18 = true := by kernel_rfl
theorem ca_19 : callB Try.prog 19 = true := by kernel_rfl
theorem sl_32 : slB Try.prog 32 36 4 = true := by kernel_rfl
theorem ca_6 : callB Try.prog 6 = true := by kernel_rfl
theorem el_64 : elL Try.prog 64 = some (4, 1, 1, [.bool false]) := by kernel_rfl
theorem zc_34 : zcells Try.prog 34 = some [.int .i64 0, .int .i64 0] := by kernel_rfl
theorem ty_36 : tyB Try.prog 36 4 true = true := by kernel_rfl
theorem fa_36_0 : faB Try.prog 36 0 0 = true := by kernel_rfl
theorem st_44 : stL Try.prog 44 = some ([(0, 1), (1, 1), (2, 1), (3, 1), (4, 1)], [.string ByteArray.empty, .int .i64 0, .int .i64 0, .int .i64 0, .int .i64 0]) := by kernel_rfl
theorem ca_20 : callB Try.prog 20 = true := by kernel_rfl
theorem st_34 : stL Try.prog 34 = some ([(0, 1), (1, 1)], [.int .i64 0, .int .i64 0]) := by kernel_rfl
theorem ty_34 : tyB Try.prog 34 2 true = true := by kernel_rfl
theorem ca_39 : callB Try.prog 39 = true := by kernel_rfl
theorem fa_36_2 : faB Try.prog 36 2 2 = true := by kernel_rfl
theorem fa_34_0 : faB Try.prog 34 0 0 = true := by kernel_rfl
theorem ca_22 : callB Try.prog 22 = true := by kernel_rfl
theorem fa_34_1 : faB Try.prog 34 1 1 = true := by kernel_rfl
theorem ca_23 : callB Try.prog 23 = true := by kernel_rfl
theorem ca_9 : callB Try.prog 9 = true := by kernel_rfl
theorem ca_24 : callB Try.prog 24 = true := by kernel_rfl
theorem zc_36 : zcells Try.prog 36 = some [.int .i64 0, .int .i64 0, .int .i64 0, .int .i64 0] := by kernel_rfl
theorem sl_64 : slB Try.prog 64 4 1 = true := by kernel_rfl
theorem ca_8 : callB Try.prog 8 = true := by kernel_rfl
theorem ca_7 : callB Try.prog 7 = true := by kernel_rfl
theorem el_32 : elL Try.prog 32 = some (36, 4, 32, [.int .i64 0, .int .i64 0, .int .i64 0, .int .i64 0]) := by kernel_rfl
theorem ub_4 : Try.prog.underlying 4 = some .bool := by kernel_rfl
end Go.Proofs.Ytibidnaedddfdaa
