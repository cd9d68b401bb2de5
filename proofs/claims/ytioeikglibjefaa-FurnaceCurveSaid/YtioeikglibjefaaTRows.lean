/- The types of the seat, as rows. Conditions: none. -/
import Derived.Test.YtioeikglibjefaaTab
import Derived.Test.YtioeikglibjefaaW1
namespace Cp
open Go Go.Proofs
@[go_sem] theorem tab_1 : tab 1 = some { kind := .func, sz := 1, bytes := 8, zero := .nilf, plain := false } := rfl
@[go_sem] theorem tab_2 : tab 2 = some { kind := .int .i64, sz := 1, bytes := 8, zero := .int .i64 0, plain := false } := rfl
@[go_sem] theorem tab_3 : tab 3 = some { kind := .int .i64, sz := 1, bytes := 8, zero := .int .i64 0, plain := false } := rfl
@[go_sem] theorem tab_4 : tab 4 = some { kind := .bool, sz := 1, bytes := 1, zero := .bool false, plain := false } := rfl
@[go_sem] theorem tab_5 : tab 5 = some { kind := .int .u8, sz := 1, bytes := 1, zero := .int .u8 0, plain := false } := rfl
@[go_sem] theorem tab_6 : tab 6 = some { kind := .int .u8, sz := 1, bytes := 1, zero := .int .u8 0, plain := false } := rfl
@[go_sem] theorem tab_7 : tab 7 = some { kind := .struct [(0, 2), (1, 3), (2, 4), (3, 6)], sz := 4, bytes := 24, zero := .agg [.int .i64 0, .int .i64 0, .bool false, .int .u8 0], plain := false } := rfl
@[go_sem] theorem tab_8 : tab 8 = some { kind := .struct [(0, 2), (1, 3), (2, 4), (3, 6)], sz := 4, bytes := 24, zero := .agg [.int .i64 0, .int .i64 0, .bool false, .int .u8 0], plain := false } := rfl
@[go_sem] theorem tab_9 : tab 9 = some { kind := .str, sz := 1, bytes := 16, zero := .str ByteArray.empty, plain := false } := rfl
@[go_sem] theorem tab_10 : tab 10 = some { kind := .str, sz := 1, bytes := 16, zero := .str ByteArray.empty, plain := false } := rfl
@[go_sem] theorem tab_11 : tab 11 = some { kind := .str, sz := 1, bytes := 16, zero := .str ByteArray.empty, plain := false } := rfl
@[go_sem] theorem tab_12 : tab 12 = some { kind := .int .u64, sz := 1, bytes := 8, zero := .int .u64 0, plain := false } := rfl
@[go_sem] theorem tab_13 : tab 13 = some { kind := .struct [(0, 9), (1, 12)], sz := 2, bytes := 24, zero := .agg [.str ByteArray.empty, .int .u64 0], plain := false } := rfl
@[go_sem] theorem tab_14 : tab 14 = some { kind := .struct [(0, 9), (1, 12)], sz := 2, bytes := 24, zero := .agg [.str ByteArray.empty, .int .u64 0], plain := false } := rfl
@[go_sem] theorem tab_15 : tab 15 = some { kind := .ptr, sz := 1, bytes := 8, zero := .nilp, plain := false } := rfl
@[go_sem] theorem tab_16 : tab 16 = some { kind := .ptr, sz := 1, bytes := 8, zero := .nilp, plain := false } := rfl
@[go_sem] theorem tab_17 : tab 17 = some { kind := .ptr, sz := 1, bytes := 8, zero := .nilp, plain := false } := rfl
@[go_sem] theorem tab_18 : tab 18 = some { kind := .struct [(0, 17)], sz := 1, bytes := 8, zero := .agg [.nilp], plain := false } := rfl
@[go_sem] theorem tab_19 : tab 19 = some { kind := .struct [(0, 17)], sz := 1, bytes := 8, zero := .agg [.nilp], plain := false } := rfl
@[go_sem] theorem tab_20 : tab 20 = some { kind := .iface, sz := 1, bytes := 16, zero := .nili, plain := false } := rfl
@[go_sem] theorem tab_21 : tab 21 = some { kind := .int .i32, sz := 1, bytes := 4, zero := .int .i32 0, plain := false } := rfl
@[go_sem] theorem tab_22 : tab 22 = some { kind := .slice 93, sz := 1, bytes := 24, zero := .nils, plain := false } := rfl
@[go_sem] theorem tab_23 : tab 23 = some { kind := .slice 76, sz := 1, bytes := 24, zero := .nils, plain := false } := rfl
@[go_sem] theorem tab_24 : tab 24 = some { kind := .slice 89, sz := 1, bytes := 24, zero := .nils, plain := false } := rfl
@[go_sem] theorem tab_25 : tab 25 = some { kind := .struct [(0, 3), (1, 3)], sz := 2, bytes := 16, zero := .agg [.int .i64 0, .int .i64 0], plain := true } := rfl
@[go_sem] theorem tab_26 : tab 26 = some { kind := .struct [(0, 3), (1, 3)], sz := 2, bytes := 16, zero := .agg [.int .i64 0, .int .i64 0], plain := true } := rfl
@[go_sem] theorem tab_27 : tab 27 = some { kind := .struct [(0, 3), (1, 22), (2, 23), (3, 24), (4, 26)], sz := 6, bytes := 96, zero := .agg [.int .i64 0, .nils, .nils, .nils, .int .i64 0, .int .i64 0], plain := false } := rfl
@[go_sem] theorem tab_28 : tab 28 = some { kind := .struct [(0, 3), (1, 22), (2, 23), (3, 24), (4, 26)], sz := 6, bytes := 96, zero := .agg [.int .i64 0, .nils, .nils, .nils, .int .i64 0, .int .i64 0], plain := false } := rfl
@[go_sem] theorem tab_29 : tab 29 = some { kind := .slice 85, sz := 1, bytes := 24, zero := .nils, plain := false } := rfl
@[go_sem] theorem tab_30 : tab 30 = some { kind := .struct [(0, 29), (1, 3), (2, 3), (3, 26), (5, 3)], sz := 6, bytes := 64, zero := .agg [.nils, .int .i64 0, .int .i64 0, .int .i64 0, .int .i64 0, .int .i64 0], plain := false } := rfl
@[go_sem] theorem tab_31 : tab 31 = some { kind := .struct [(0, 29), (1, 3), (2, 3), (3, 26), (5, 3)], sz := 6, bytes := 64, zero := .agg [.nils, .int .i64 0, .int .i64 0, .int .i64 0, .int .i64 0, .int .i64 0], plain := false } := rfl
@[go_sem] theorem tab_32 : tab 32 = some { kind := .func, sz := 1, bytes := 8, zero := .nilf, plain := false } := rfl
@[go_sem] theorem tab_33 : tab 33 = some { kind := .func, sz := 1, bytes := 8, zero := .nilf, plain := false } := rfl
@[go_sem] theorem tab_34 : tab 34 = some { kind := .int .i64, sz := 1, bytes := 8, zero := .int .i64 0, plain := false } := rfl
@[go_sem] theorem tab_36 : tab 36 = some { kind := .func, sz := 1, bytes := 8, zero := .nilf, plain := false } := rfl
@[go_sem] theorem tab_38 : tab 38 = some { kind := .func, sz := 1, bytes := 8, zero := .nilf, plain := false } := rfl
@[go_sem] theorem tab_40 : tab 40 = some { kind := .func, sz := 1, bytes := 8, zero := .nilf, plain := false } := rfl
@[go_sem] theorem tab_42 : tab 42 = some { kind := .func, sz := 1, bytes := 8, zero := .nilf, plain := false } := rfl
@[go_sem] theorem tab_43 : tab 43 = some { kind := .func, sz := 1, bytes := 8, zero := .nilf, plain := false } := rfl
@[go_sem] theorem tab_44 : tab 44 = some { kind := .func, sz := 1, bytes := 8, zero := .nilf, plain := false } := rfl
@[go_sem] theorem tab_45 : tab 45 = some { kind := .func, sz := 1, bytes := 8, zero := .nilf, plain := false } := rfl
@[go_sem] theorem tab_46 : tab 46 = some { kind := .func, sz := 1, bytes := 8, zero := .nilf, plain := false } := rfl
@[go_sem] theorem tab_47 : tab 47 = some { kind := .func, sz := 1, bytes := 8, zero := .nilf, plain := false } := rfl
@[go_sem] theorem tab_48 : tab 48 = some { kind := .func, sz := 1, bytes := 8, zero := .nilf, plain := false } := rfl
@[go_sem] theorem tab_49 : tab 49 = some { kind := .slice 71, sz := 1, bytes := 24, zero := .nils, plain := false } := rfl
@[go_sem] theorem tab_51 : tab 51 = some { kind := .func, sz := 1, bytes := 8, zero := .nilf, plain := false } := rfl
@[go_sem] theorem tab_53 : tab 53 = some { kind := .func, sz := 1, bytes := 8, zero := .nilf, plain := false } := rfl
@[go_sem] theorem tab_55 : tab 55 = some { kind := .func, sz := 1, bytes := 8, zero := .nilf, plain := false } := rfl
@[go_sem] theorem tab_57 : tab 57 = some { kind := .func, sz := 1, bytes := 8, zero := .nilf, plain := false } := rfl
@[go_sem] theorem tab_58 : tab 58 = some { kind := .func, sz := 1, bytes := 8, zero := .nilf, plain := false } := rfl
@[go_sem] theorem tab_59 : tab 59 = some { kind := .func, sz := 1, bytes := 8, zero := .nilf, plain := false } := rfl
@[go_sem] theorem tab_60 : tab 60 = some { kind := .func, sz := 1, bytes := 8, zero := .nilf, plain := false } := rfl
@[go_sem] theorem tab_61 : tab 61 = some { kind := .func, sz := 1, bytes := 8, zero := .nilf, plain := false } := rfl
@[go_sem] theorem tab_62 : tab 62 = some { kind := .func, sz := 1, bytes := 8, zero := .nilf, plain := false } := rfl
@[go_sem] theorem tab_63 : tab 63 = some { kind := .slice 67, sz := 1, bytes := 24, zero := .nils, plain := false } := rfl
@[go_sem] theorem tab_64 : tab 64 = some { kind := .func, sz := 1, bytes := 8, zero := .nilf, plain := false } := rfl
@[go_sem] theorem tab_65 : tab 65 = some { kind := .map 73 4, sz := 1, bytes := 8, zero := .nilm, plain := false } := rfl
@[go_sem] theorem tab_66 : tab 66 = some { kind := .func, sz := 1, bytes := 8, zero := .nilf, plain := false } := rfl
@[go_sem] theorem tab_67 : tab 67 = some { kind := .int .u32, sz := 1, bytes := 4, zero := .int .u32 0, plain := false } := rfl
@[go_sem] theorem tab_68 : tab 68 = some { kind := .func, sz := 1, bytes := 8, zero := .nilf, plain := false } := rfl
@[go_sem] theorem tab_69 : tab 69 = some { kind := .func, sz := 1, bytes := 8, zero := .nilf, plain := false } := rfl
@[go_sem] theorem tab_70 : tab 70 = some { kind := .struct [(0, 3), (1, 5), (2, 3), (3, 5)], sz := 4, bytes := 32, zero := .agg [.int .i64 0, .int .u8 0, .int .i64 0, .int .u8 0], plain := true } := rfl
@[go_sem] theorem tab_71 : tab 71 = some { kind := .struct [(0, 3), (1, 5), (2, 3), (3, 5)], sz := 4, bytes := 32, zero := .agg [.int .i64 0, .int .u8 0, .int .i64 0, .int .u8 0], plain := true } := rfl
@[go_sem] theorem tab_72 : tab 72 = some { kind := .struct [(0, 3), (1, 5), (2, 3)], sz := 3, bytes := 24, zero := .agg [.int .i64 0, .int .u8 0, .int .i64 0], plain := true } := rfl
@[go_sem] theorem tab_73 : tab 73 = some { kind := .struct [(0, 3), (1, 5), (2, 3)], sz := 3, bytes := 24, zero := .agg [.int .i64 0, .int .u8 0, .int .i64 0], plain := true } := rfl
@[go_sem] theorem tab_74 : tab 74 = some { kind := .func, sz := 1, bytes := 8, zero := .nilf, plain := false } := rfl
@[go_sem] theorem tab_75 : tab 75 = some { kind := .struct [(0, 3), (1, 26), (3, 26), (5, 3)], sz := 6, bytes := 48, zero := .agg [.int .i64 0, .int .i64 0, .int .i64 0, .int .i64 0, .int .i64 0, .int .i64 0], plain := true } := rfl
@[go_sem] theorem tab_76 : tab 76 = some { kind := .struct [(0, 3), (1, 26), (3, 26), (5, 3)], sz := 6, bytes := 48, zero := .agg [.int .i64 0, .int .i64 0, .int .i64 0, .int .i64 0, .int .i64 0, .int .i64 0], plain := true } := rfl
@[go_sem] theorem tab_77 : tab 77 = some { kind := .func, sz := 1, bytes := 8, zero := .nilf, plain := false } := rfl
@[go_sem] theorem tab_78 : tab 78 = some { kind := .func, sz := 1, bytes := 8, zero := .nilf, plain := false } := rfl
@[go_sem] theorem tab_79 : tab 79 = some { kind := .func, sz := 1, bytes := 8, zero := .nilf, plain := false } := rfl
@[go_sem] theorem tab_80 : tab 80 = some { kind := .func, sz := 1, bytes := 8, zero := .nilf, plain := false } := rfl
@[go_sem] theorem tab_81 : tab 81 = some { kind := .func, sz := 1, bytes := 8, zero := .nilf, plain := false } := rfl
@[go_sem] theorem tab_82 : tab 82 = some { kind := .ptr, sz := 1, bytes := 8, zero := .nilp, plain := false } := rfl
@[go_sem] theorem tab_83 : tab 83 = some { kind := .map 73 5, sz := 1, bytes := 8, zero := .nilm, plain := false } := rfl
@[go_sem] theorem tab_84 : tab 84 = some { kind := .struct [(0, 3), (1, 3)], sz := 2, bytes := 16, zero := .agg [.int .i64 0, .int .i64 0], plain := true } := rfl
@[go_sem] theorem tab_85 : tab 85 = some { kind := .struct [(0, 3), (1, 3)], sz := 2, bytes := 16, zero := .agg [.int .i64 0, .int .i64 0], plain := true } := rfl
@[go_sem] theorem tab_86 : tab 86 = some { kind := .int .u16, sz := 1, bytes := 2, zero := .int .u16 0, plain := false } := rfl
@[go_sem] theorem tab_87 : tab 87 = some { kind := .slice 3, sz := 1, bytes := 24, zero := .nils, plain := false } := rfl
@[go_sem] theorem tab_88 : tab 88 = some { kind := .struct [(0, 87), (1, 3)], sz := 2, bytes := 32, zero := .agg [.nils, .int .i64 0], plain := false } := rfl
@[go_sem] theorem tab_89 : tab 89 = some { kind := .struct [(0, 87), (1, 3)], sz := 2, bytes := 32, zero := .agg [.nils, .int .i64 0], plain := false } := rfl
@[go_sem] theorem tab_90 : tab 90 = some { kind := .func, sz := 1, bytes := 8, zero := .nilf, plain := false } := rfl
@[go_sem] theorem tab_91 : tab 91 = some { kind := .func, sz := 1, bytes := 8, zero := .nilf, plain := false } := rfl
@[go_sem] theorem tab_92 : tab 92 = some { kind := .struct [(0, 3), (1, 3)], sz := 2, bytes := 16, zero := .agg [.int .i64 0, .int .i64 0], plain := true } := rfl
@[go_sem] theorem tab_93 : tab 93 = some { kind := .struct [(0, 3), (1, 3)], sz := 2, bytes := 16, zero := .agg [.int .i64 0, .int .i64 0], plain := true } := rfl
@[go_sem] theorem tab_94 : tab 94 = some { kind := .func, sz := 1, bytes := 8, zero := .nilf, plain := false } := rfl
@[go_sem] theorem tab_95 : tab 95 = some { kind := .func, sz := 1, bytes := 8, zero := .nilf, plain := false } := rfl
@[go_sem] theorem tab_96 : tab 96 = some { kind := .func, sz := 1, bytes := 8, zero := .nilf, plain := false } := rfl
@[go_sem] theorem tab_97 : tab 97 = some { kind := .func, sz := 1, bytes := 8, zero := .nilf, plain := false } := rfl
@[go_sem] theorem tab_98 : tab 98 = some { kind := .func, sz := 1, bytes := 8, zero := .nilf, plain := false } := rfl
@[go_sem] theorem tab_99 : tab 99 = some { kind := .ptr, sz := 1, bytes := 8, zero := .nilp, plain := false } := rfl
@[go_sem] theorem tab_100 : tab 100 = some { kind := .func, sz := 1, bytes := 8, zero := .nilf, plain := false } := rfl
@[go_sem] theorem tab_101 : tab 101 = some { kind := .array 61 26, sz := 122, bytes := 976, zero := .agg [.int .i64 0, .int .i64 0, .int .i64 0, .int .i64 0, .int .i64 0, .int .i64 0, .int .i64 0, .int .i64 0, .int .i64 0, .int .i64 0, .int .i64 0, .int .i64 0, .int .i64 0, .int .i64 0, .int .i64 0, .int .i64 0, .int .i64 0, .int .i64 0, .int .i64 0, .int .i64 0, .int .i64 0, .int .i64 0, .int .i64 0, .int .i64 0, .int .i64 0, .int .i64 0, .int .i64 0, .int .i64 0, .int .i64 0, .int .i64 0, .int .i64 0, .int .i64 0, .int .i64 0, .int .i64 0, .int .i64 0, .int .i64 0, .int .i64 0, .int .i64 0, .int .i64 0, .int .i64 0, .int .i64 0, .int .i64 0, .int .i64 0, .int .i64 0, .int .i64 0, .int .i64 0, .int .i64 0, .int .i64 0, .int .i64 0, .int .i64 0, .int .i64 0, .int .i64 0, .int .i64 0, .int .i64 0, .int .i64 0, .int .i64 0, .int .i64 0, .int .i64 0, .int .i64 0, .int .i64 0, .int .i64 0, .int .i64 0, .int .i64 0, .int .i64 0, .int .i64 0, .int .i64 0, .int .i64 0, .int .i64 0, .int .i64 0, .int .i64 0, .int .i64 0, .int .i64 0, .int .i64 0, .int .i64 0, .int .i64 0, .int .i64 0, .int .i64 0, .int .i64 0, .int .i64 0, .int .i64 0, .int .i64 0, .int .i64 0, .int .i64 0, .int .i64 0, .int .i64 0, .int .i64 0, .int .i64 0, .int .i64 0, .int .i64 0, .int .i64 0, .int .i64 0, .int .i64 0, .int .i64 0, .int .i64 0, .int .i64 0, .int .i64 0, .int .i64 0, .int .i64 0, .int .i64 0, .int .i64 0, .int .i64 0, .int .i64 0, .int .i64 0, .int .i64 0, .int .i64 0, .int .i64 0, .int .i64 0, .int .i64 0, .int .i64 0, .int .i64 0, .int .i64 0, .int .i64 0, .int .i64 0, .int .i64 0, .int .i64 0, .int .i64 0, .int .i64 0, .int .i64 0, .int .i64 0, .int .i64 0, .int .i64 0, .int .i64 0], plain := false } := rfl
@[go_sem] theorem tab_102 : tab 102 = some { kind := .array 61 4, sz := 61, bytes := 61, zero := .agg [.bool false, .bool false, .bool false, .bool false, .bool false, .bool false, .bool false, .bool false, .bool false, .bool false, .bool false, .bool false, .bool false, .bool false, .bool false, .bool false, .bool false, .bool false, .bool false, .bool false, .bool false, .bool false, .bool false, .bool false, .bool false, .bool false, .bool false, .bool false, .bool false, .bool false, .bool false, .bool false, .bool false, .bool false, .bool false, .bool false, .bool false, .bool false, .bool false, .bool false, .bool false, .bool false, .bool false, .bool false, .bool false, .bool false, .bool false, .bool false, .bool false, .bool false, .bool false, .bool false, .bool false, .bool false, .bool false, .bool false, .bool false, .bool false, .bool false, .bool false, .bool false], plain := false } := rfl
@[go_sem] theorem tab_103 : tab 103 = some { kind := .struct [(0, 28), (6, 101), (128, 102)], sz := 189, bytes := 1136, zero := .agg [.int .i64 0, .nils, .nils, .nils, .int .i64 0, .int .i64 0, .int .i64 0, .int .i64 0, .int .i64 0, .int .i64 0, .int .i64 0, .int .i64 0, .int .i64 0, .int .i64 0, .int .i64 0, .int .i64 0, .int .i64 0, .int .i64 0, .int .i64 0, .int .i64 0, .int .i64 0, .int .i64 0, .int .i64 0, .int .i64 0, .int .i64 0, .int .i64 0, .int .i64 0, .int .i64 0, .int .i64 0, .int .i64 0, .int .i64 0, .int .i64 0, .int .i64 0, .int .i64 0, .int .i64 0, .int .i64 0, .int .i64 0, .int .i64 0, .int .i64 0, .int .i64 0, .int .i64 0, .int .i64 0, .int .i64 0, .int .i64 0, .int .i64 0, .int .i64 0, .int .i64 0, .int .i64 0, .int .i64 0, .int .i64 0, .int .i64 0, .int .i64 0, .int .i64 0, .int .i64 0, .int .i64 0, .int .i64 0, .int .i64 0, .int .i64 0, .int .i64 0, .int .i64 0, .int .i64 0, .int .i64 0, .int .i64 0, .int .i64 0, .int .i64 0, .int .i64 0, .int .i64 0, .int .i64 0, .int .i64 0, .int .i64 0, .int .i64 0, .int .i64 0, .int .i64 0, .int .i64 0, .int .i64 0, .int .i64 0, .int .i64 0, .int .i64 0, .int .i64 0, .int .i64 0, .int .i64 0, .int .i64 0, .int .i64 0, .int .i64 0, .int .i64 0, .int .i64 0, .int .i64 0, .int .i64 0, .int .i64 0, .int .i64 0, .int .i64 0, .int .i64 0, .int .i64 0, .int .i64 0, .int .i64 0, .int .i64 0, .int .i64 0, .int .i64 0, .int .i64 0, .int .i64 0, .int .i64 0, .int .i64 0, .int .i64 0, .int .i64 0, .int .i64 0, .int .i64 0, .int .i64 0, .int .i64 0, .int .i64 0, .int .i64 0, .int .i64 0, .int .i64 0, .int .i64 0, .int .i64 0, .int .i64 0, .int .i64 0, .int .i64 0, .int .i64 0, .int .i64 0, .int .i64 0, .int .i64 0, .int .i64 0, .int .i64 0, .int .i64 0, .int .i64 0, .int .i64 0, .int .i64 0, .int .i64 0, .bool false, .bool false, .bool false, .bool false, .bool false, .bool false, .bool false, .bool false, .bool false, .bool false, .bool false, .bool false, .bool false, .bool false, .bool false, .bool false, .bool false, .bool false, .bool false, .bool false, .bool false, .bool false, .bool false, .bool false, .bool false, .bool false, .bool false, .bool false, .bool false, .bool false, .bool false, .bool false, .bool false, .bool false, .bool false, .bool false, .bool false, .bool false, .bool false, .bool false, .bool false, .bool false, .bool false, .bool false, .bool false, .bool false, .bool false, .bool false, .bool false, .bool false, .bool false, .bool false, .bool false, .bool false, .bool false, .bool false, .bool false, .bool false, .bool false, .bool false, .bool false], plain := false } := rfl
@[go_sem] theorem tab_104 : tab 104 = some { kind := .struct [(0, 28), (6, 101), (128, 102)], sz := 189, bytes := 1136, zero := .agg [.int .i64 0, .nils, .nils, .nils, .int .i64 0, .int .i64 0, .int .i64 0, .int .i64 0, .int .i64 0, .int .i64 0, .int .i64 0, .int .i64 0, .int .i64 0, .int .i64 0, .int .i64 0, .int .i64 0, .int .i64 0, .int .i64 0, .int .i64 0, .int .i64 0, .int .i64 0, .int .i64 0, .int .i64 0, .int .i64 0, .int .i64 0, .int .i64 0, .int .i64 0, .int .i64 0, .int .i64 0, .int .i64 0, .int .i64 0, .int .i64 0, .int .i64 0, .int .i64 0, .int .i64 0, .int .i64 0, .int .i64 0, .int .i64 0, .int .i64 0, .int .i64 0, .int .i64 0, .int .i64 0, .int .i64 0, .int .i64 0, .int .i64 0, .int .i64 0, .int .i64 0, .int .i64 0, .int .i64 0, .int .i64 0, .int .i64 0, .int .i64 0, .int .i64 0, .int .i64 0, .int .i64 0, .int .i64 0, .int .i64 0, .int .i64 0, .int .i64 0, .int .i64 0, .int .i64 0, .int .i64 0, .int .i64 0, .int .i64 0, .int .i64 0, .int .i64 0, .int .i64 0, .int .i64 0, .int .i64 0, .int .i64 0, .int .i64 0, .int .i64 0, .int .i64 0, .int .i64 0, .int .i64 0, .int .i64 0, .int .i64 0, .int .i64 0, .int .i64 0, .int .i64 0, .int .i64 0, .int .i64 0, .int .i64 0, .int .i64 0, .int .i64 0, .int .i64 0, .int .i64 0, .int .i64 0, .int .i64 0, .int .i64 0, .int .i64 0, .int .i64 0, .int .i64 0, .int .i64 0, .int .i64 0, .int .i64 0, .int .i64 0, .int .i64 0, .int .i64 0, .int .i64 0, .int .i64 0, .int .i64 0, .int .i64 0, .int .i64 0, .int .i64 0, .int .i64 0, .int .i64 0, .int .i64 0, .int .i64 0, .int .i64 0, .int .i64 0, .int .i64 0, .int .i64 0, .int .i64 0, .int .i64 0, .int .i64 0, .int .i64 0, .int .i64 0, .int .i64 0, .int .i64 0, .int .i64 0, .int .i64 0, .int .i64 0, .int .i64 0, .int .i64 0, .int .i64 0, .int .i64 0, .int .i64 0, .bool false, .bool false, .bool false, .bool false, .bool false, .bool false, .bool false, .bool false, .bool false, .bool false, .bool false, .bool false, .bool false, .bool false, .bool false, .bool false, .bool false, .bool false, .bool false, .bool false, .bool false, .bool false, .bool false, .bool false, .bool false, .bool false, .bool false, .bool false, .bool false, .bool false, .bool false, .bool false, .bool false, .bool false, .bool false, .bool false, .bool false, .bool false, .bool false, .bool false, .bool false, .bool false, .bool false, .bool false, .bool false, .bool false, .bool false, .bool false, .bool false, .bool false, .bool false, .bool false, .bool false, .bool false, .bool false, .bool false, .bool false, .bool false, .bool false, .bool false, .bool false], plain := false } := rfl
@[go_sem] theorem tab_105 : tab 105 = some { kind := .func, sz := 1, bytes := 8, zero := .nilf, plain := false } := rfl
@[go_sem] theorem tab_106 : tab 106 = some { kind := .func, sz := 1, bytes := 8, zero := .nilf, plain := false } := rfl
@[go_sem] theorem tab_107 : tab 107 = some { kind := .func, sz := 1, bytes := 8, zero := .nilf, plain := false } := rfl
@[go_sem] theorem tab_108 : tab 108 = some { kind := .func, sz := 1, bytes := 8, zero := .nilf, plain := false } := rfl
@[go_sem] theorem tab_109 : tab 109 = some { kind := .func, sz := 1, bytes := 8, zero := .nilf, plain := false } := rfl
@[go_sem] theorem tab_110 : tab 110 = some { kind := .func, sz := 1, bytes := 8, zero := .nilf, plain := false } := rfl
@[go_sem] theorem tab_111 : tab 111 = some { kind := .func, sz := 1, bytes := 8, zero := .nilf, plain := false } := rfl
@[go_sem] theorem tab_112 : tab 112 = some { kind := .func, sz := 1, bytes := 8, zero := .nilf, plain := false } := rfl
@[go_sem] theorem tab_113 : tab 113 = some { kind := .func, sz := 1, bytes := 8, zero := .nilf, plain := false } := rfl
@[go_sem] theorem tab_114 : tab 114 = some { kind := .func, sz := 1, bytes := 8, zero := .nilf, plain := false } := rfl
@[go_sem] theorem tab_115 : tab 115 = some { kind := .func, sz := 1, bytes := 8, zero := .nilf, plain := false } := rfl
@[go_sem] theorem tab_116 : tab 116 = some { kind := .func, sz := 1, bytes := 8, zero := .nilf, plain := false } := rfl
@[go_sem] theorem tab_117 : tab 117 = some { kind := .func, sz := 1, bytes := 8, zero := .nilf, plain := false } := rfl
@[go_sem] theorem tab_118 : tab 118 = some { kind := .func, sz := 1, bytes := 8, zero := .nilf, plain := false } := rfl
@[go_sem] theorem tab_119 : tab 119 = some { kind := .func, sz := 1, bytes := 8, zero := .nilf, plain := false } := rfl
@[go_sem] theorem tab_120 : tab 120 = some { kind := .func, sz := 1, bytes := 8, zero := .nilf, plain := false } := rfl
@[go_sem] theorem tab_122 : tab 122 = some { kind := .func, sz := 1, bytes := 8, zero := .nilf, plain := false } := rfl
@[go_sem] theorem tab_123 : tab 123 = some { kind := .func, sz := 1, bytes := 8, zero := .nilf, plain := false } := rfl
@[go_sem] theorem tab_124 : tab 124 = some { kind := .map 3 4, sz := 1, bytes := 8, zero := .nilm, plain := false } := rfl
@[go_sem] theorem tab_125 : tab 125 = some { kind := .func, sz := 1, bytes := 8, zero := .nilf, plain := false } := rfl
@[go_sem] theorem tab_126 : tab 126 = some { kind := .func, sz := 1, bytes := 8, zero := .nilf, plain := false } := rfl
@[go_sem] theorem tab_127 : tab 127 = some { kind := .func, sz := 1, bytes := 8, zero := .nilf, plain := false } := rfl
@[go_sem] theorem tab_128 : tab 128 = some { kind := .func, sz := 1, bytes := 8, zero := .nilf, plain := false } := rfl
@[go_sem] theorem tab_129 : tab 129 = some { kind := .func, sz := 1, bytes := 8, zero := .nilf, plain := false } := rfl
@[go_sem] theorem tab_130 : tab 130 = some { kind := .func, sz := 1, bytes := 8, zero := .nilf, plain := false } := rfl
@[go_sem] theorem tab_131 : tab 131 = some { kind := .func, sz := 1, bytes := 8, zero := .nilf, plain := false } := rfl
@[go_sem] theorem tab_132 : tab 132 = some { kind := .struct [(0, 3), (1, 3), (2, 26)], sz := 4, bytes := 32, zero := .agg [.int .i64 0, .int .i64 0, .int .i64 0, .int .i64 0], plain := true } := rfl
@[go_sem] theorem tab_133 : tab 133 = some { kind := .struct [(0, 3), (1, 3), (2, 26)], sz := 4, bytes := 32, zero := .agg [.int .i64 0, .int .i64 0, .int .i64 0, .int .i64 0], plain := true } := rfl
@[go_sem] theorem tab_134 : tab 134 = some { kind := .slice 138, sz := 1, bytes := 24, zero := .nils, plain := false } := rfl
@[go_sem] theorem tab_135 : tab 135 = some { kind := .func, sz := 1, bytes := 8, zero := .nilf, plain := false } := rfl
@[go_sem] theorem tab_136 : tab 136 = some { kind := .func, sz := 1, bytes := 8, zero := .nilf, plain := false } := rfl
@[go_sem] theorem tab_137 : tab 137 = some { kind := .struct [(0, 5), (1, 136)], sz := 2, bytes := 16, zero := .agg [.int .u8 0, .nilf], plain := false } := rfl
@[go_sem] theorem tab_138 : tab 138 = some { kind := .struct [(0, 5), (1, 136)], sz := 2, bytes := 16, zero := .agg [.int .u8 0, .nilf], plain := false } := rfl
@[go_sem] theorem tab_139 : tab 139 = some { kind := .map 3 5, sz := 1, bytes := 8, zero := .nilm, plain := false } := rfl
@[go_sem] theorem tab_140 : tab 140 = some { kind := .func, sz := 1, bytes := 8, zero := .nilf, plain := false } := rfl
@[go_sem] theorem tab_141 : tab 141 = some { kind := .func, sz := 1, bytes := 8, zero := .nilf, plain := false } := rfl
@[go_sem] theorem tab_142 : tab 142 = some { kind := .func, sz := 1, bytes := 8, zero := .nilf, plain := false } := rfl
@[go_sem] theorem tab_143 : tab 143 = some { kind := .func, sz := 1, bytes := 8, zero := .nilf, plain := false } := rfl
@[go_sem] theorem tab_144 : tab 144 = some { kind := .func, sz := 1, bytes := 8, zero := .nilf, plain := false } := rfl
@[go_sem] theorem tab_145 : tab 145 = some { kind := .func, sz := 1, bytes := 8, zero := .nilf, plain := false } := rfl
@[go_sem] theorem tab_146 : tab 146 = some { kind := .func, sz := 1, bytes := 8, zero := .nilf, plain := false } := rfl
@[go_sem] theorem tab_147 : tab 147 = some { kind := .int .u64, sz := 1, bytes := 8, zero := .int .u64 0, plain := false } := rfl
@[go_sem] theorem tab_148 : tab 148 = some { kind := .slice 26, sz := 1, bytes := 24, zero := .nils, plain := false } := rfl
@[go_sem] theorem tab_149 : tab 149 = some { kind := .func, sz := 1, bytes := 8, zero := .nilf, plain := false } := rfl
@[go_sem] theorem tab_150 : tab 150 = some { kind := .func, sz := 1, bytes := 8, zero := .nilf, plain := false } := rfl
@[go_sem] theorem tab_151 : tab 151 = some { kind := .func, sz := 1, bytes := 8, zero := .nilf, plain := false } := rfl
@[go_sem] theorem tab_152 : tab 152 = some { kind := .func, sz := 1, bytes := 8, zero := .nilf, plain := false } := rfl
@[go_sem] theorem tab_153 : tab 153 = some { kind := .func, sz := 1, bytes := 8, zero := .nilf, plain := false } := rfl
@[go_sem] theorem tab_154 : tab 154 = some { kind := .func, sz := 1, bytes := 8, zero := .nilf, plain := false } := rfl
@[go_sem] theorem tab_155 : tab 155 = some { kind := .func, sz := 1, bytes := 8, zero := .nilf, plain := false } := rfl
@[go_sem] theorem tab_156 : tab 156 = some { kind := .slice 142, sz := 1, bytes := 24, zero := .nils, plain := false } := rfl
@[go_sem] theorem tab_157 : tab 157 = some { kind := .func, sz := 1, bytes := 8, zero := .nilf, plain := false } := rfl
@[go_sem] theorem tab_158 : tab 158 = some { kind := .int .i64, sz := 1, bytes := 8, zero := .int .i64 0, plain := false } := rfl
@[go_sem] theorem tab_160 : tab 160 = some { kind := .func, sz := 1, bytes := 8, zero := .nilf, plain := false } := rfl
@[go_sem] theorem tab_161 : tab 161 = some { kind := .func, sz := 1, bytes := 8, zero := .nilf, plain := false } := rfl
@[go_sem] theorem tab_162 : tab 162 = some { kind := .func, sz := 1, bytes := 8, zero := .nilf, plain := false } := rfl
@[go_sem] theorem tab_163 : tab 163 = some { kind := .func, sz := 1, bytes := 8, zero := .nilf, plain := false } := rfl
@[go_sem] theorem tab_164 : tab 164 = some { kind := .func, sz := 1, bytes := 8, zero := .nilf, plain := false } := rfl
@[go_sem] theorem tab_165 : tab 165 = some { kind := .func, sz := 1, bytes := 8, zero := .nilf, plain := false } := rfl
@[go_sem] theorem tab_166 : tab 166 = some { kind := .int .u64, sz := 1, bytes := 8, zero := .int .u64 0, plain := false } := rfl
@[go_sem] theorem tab_167 : tab 167 = some { kind := .int .u64, sz := 1, bytes := 8, zero := .int .u64 0, plain := false } := rfl
@[go_sem] theorem tab_168 : tab 168 = some { kind := .func, sz := 1, bytes := 8, zero := .nilf, plain := false } := rfl
@[go_sem] theorem tab_169 : tab 169 = some { kind := .func, sz := 1, bytes := 8, zero := .nilf, plain := false } := rfl
@[go_sem] theorem tab_170 : tab 170 = some { kind := .func, sz := 1, bytes := 8, zero := .nilf, plain := false } := rfl
@[go_sem] theorem tab_171 : tab 171 = some { kind := .ptr, sz := 1, bytes := 8, zero := .nilp, plain := false } := rfl
@[go_sem] theorem tab_172 : tab 172 = some { kind := .func, sz := 1, bytes := 8, zero := .nilf, plain := false } := rfl
@[go_sem] theorem tab_173 : tab 173 = some { kind := .ptr, sz := 1, bytes := 8, zero := .nilp, plain := false } := rfl
@[go_sem] theorem tab_174 : tab 174 = some { kind := .func, sz := 1, bytes := 8, zero := .nilf, plain := false } := rfl
@[go_sem] theorem tab_175 : tab 175 = some { kind := .func, sz := 1, bytes := 8, zero := .nilf, plain := false } := rfl
@[go_sem] theorem tab_176 : tab 176 = some { kind := .struct [(0, 17), (1, 17), (2, 17), (3, 9)], sz := 4, bytes := 40, zero := .agg [.nilp, .nilp, .nilp, .str ByteArray.empty], plain := false } := rfl
@[go_sem] theorem tab_177 : tab 177 = some { kind := .struct [(0, 17), (1, 17), (2, 17), (3, 9)], sz := 4, bytes := 40, zero := .agg [.nilp, .nilp, .nilp, .str ByteArray.empty], plain := false } := rfl
@[go_sem] theorem tab_178 : tab 178 = some { kind := .array 0 16, sz := 0, bytes := 0, zero := .agg [], plain := false } := rfl
@[go_sem] theorem tab_181 : tab 181 = some { kind := .func, sz := 1, bytes := 8, zero := .nilf, plain := false } := rfl
@[go_sem] theorem tab_182 : tab 182 = some { kind := .int .u8, sz := 1, bytes := 1, zero := .int .u8 0, plain := false } := rfl
@[go_sem] theorem tab_183 : tab 183 = some { kind := .int .u8, sz := 1, bytes := 1, zero := .int .u8 0, plain := false } := rfl
@[go_sem] theorem tab_184 : tab 184 = some { kind := .func, sz := 1, bytes := 8, zero := .nilf, plain := false } := rfl
@[go_sem] theorem tab_185 : tab 185 = some { kind := .ptr, sz := 1, bytes := 8, zero := .nilp, plain := false } := rfl
@[go_sem] theorem tab_186 : tab 186 = some { kind := .int .i32, sz := 1, bytes := 4, zero := .int .i32 0, plain := false } := rfl
@[go_sem] theorem tab_187 : tab 187 = some { kind := .int .i32, sz := 1, bytes := 4, zero := .int .i32 0, plain := false } := rfl
@[go_sem] theorem tab_188 : tab 188 = some { kind := .struct [(0, 12), (1, 12), (2, 67), (3, 182), (4, 5), (5, 5), (6, 183), (7, 184), (8, 185), (9, 186), (10, 187)], sz := 11, bytes := 48, zero := .agg [.int .u64 0, .int .u64 0, .int .u32 0, .int .u8 0, .int .u8 0, .int .u8 0, .int .u8 0, .nilf, .nilp, .int .i32 0, .int .i32 0], plain := false } := rfl
@[go_sem] theorem tab_189 : tab 189 = some { kind := .struct [(0, 12), (1, 12), (2, 67), (3, 182), (4, 5), (5, 5), (6, 183), (7, 184), (8, 185), (9, 186), (10, 187)], sz := 11, bytes := 48, zero := .agg [.int .u64 0, .int .u64 0, .int .u32 0, .int .u8 0, .int .u8 0, .int .u8 0, .int .u8 0, .nilf, .nilp, .int .i32 0, .int .i32 0], plain := false } := rfl
end Cp
