/- Rules, facts and contracts that the statement's proof leans on. Conditions: none. -/
import Derived.Test.YtioeikglibjefaaP7
set_option linter.unusedVariables false
set_option linter.unusedSimpArgs false
set_option linter.unusedSectionVars false
namespace Cp
open Go Go.Proofs
instance : Tb Try.prog tab := ⟨tabOK, mix⟩
@[go_sem] theorem tab_1 : tab 1 = some { kind := .func, sz := 1, bytes := 8, zero := .nilf, plain := false } := rfl
@[go_sem] theorem tab_2 : tab 2 = some { kind := .int .i64, sz := 1, bytes := 8, zero := .int .i64 0, plain := false } := rfl
@[go_sem] theorem tab_3 : tab 3 = some { kind := .int .i64, sz := 1, bytes := 8, zero := .int .i64 0, plain := false } := rfl
@[go_sem] theorem tab_4 : tab 4 = some { kind := .bool, sz := 1, bytes := 1, zero := .bool false, plain := false } := rfl
@[go_sem] theorem tab_5 : tab 5 = some { kind := .int .u8, sz := 1, bytes := 1, zero := .int .u8 0, plain := false } := rfl
@[go_sem] theorem tab_6 : tab 6 = some { kind := .int .u8, sz := 1, bytes := 1, zero := .int .u8 0, plain := false } := rfl
@[go_sem] theorem tab_9 : tab 9 = some { kind := .str, sz := 1, bytes := 16, zero := .str ByteArray.empty, plain := false } := rfl
@[go_sem] theorem tab_12 : tab 12 = some { kind := .int .u64, sz := 1, bytes := 8, zero := .int .u64 0, plain := false } := rfl
@[go_sem] theorem tab_14 : tab 14 = some { kind := .struct [(0, 9), (1, 12)], sz := 2, bytes := 24, zero := .agg [.str ByteArray.empty, .int .u64 0], plain := false } := rfl
@[go_sem] theorem tab_16 : tab 16 = some { kind := .ptr, sz := 1, bytes := 8, zero := .nilp, plain := false } := rfl
@[go_sem] theorem tab_17 : tab 17 = some { kind := .ptr, sz := 1, bytes := 8, zero := .nilp, plain := false } := rfl
@[go_sem] theorem tab_18 : tab 18 = some { kind := .struct [(0, 17)], sz := 1, bytes := 8, zero := .agg [.nilp], plain := false } := rfl
@[go_sem] theorem tab_19 : tab 19 = some { kind := .struct [(0, 17)], sz := 1, bytes := 8, zero := .agg [.nilp], plain := false } := rfl
@[go_sem] theorem tab_20 : tab 20 = some { kind := .iface, sz := 1, bytes := 16, zero := .nili, plain := false } := rfl
@[go_sem] theorem tab_21 : tab 21 = some { kind := .int .i32, sz := 1, bytes := 4, zero := .int .i32 0, plain := false } := rfl
@[go_sem] theorem tab_22 : tab 22 = some { kind := .slice 93, sz := 1, bytes := 24, zero := .nils, plain := false } := rfl
@[go_sem] theorem tab_23 : tab 23 = some { kind := .slice 76, sz := 1, bytes := 24, zero := .nils, plain := false } := rfl
@[go_sem] theorem tab_24 : tab 24 = some { kind := .slice 89, sz := 1, bytes := 24, zero := .nils, plain := false } := rfl
@[go_sem] theorem tab_25 : tab 25 = some { kind := .struct [(0, 3), (1, 3)], sz := 2, bytes := 16, zero := .agg [.int .i64 0, .int .i64 0], plain := true } := rfl
@[go_sem] theorem tab_26 : tab 26 = some { kind := .struct [(0, 3), (1, 3)], sz := 2, bytes := 16, zero := .agg [.int .i64 0, .int .i64 0], plain := true } := rfl
@[go_sem] theorem tab_28 : tab 28 = some { kind := .struct [(0, 3), (1, 22), (2, 23), (3, 24), (4, 26)], sz := 6, bytes := 96, zero := .agg [.int .i64 0, .nils, .nils, .nils, .int .i64 0, .int .i64 0], plain := false } := rfl
@[go_sem] theorem tab_29 : tab 29 = some { kind := .slice 85, sz := 1, bytes := 24, zero := .nils, plain := false } := rfl
@[go_sem] theorem tab_31 : tab 31 = some { kind := .struct [(0, 29), (1, 3), (2, 3), (3, 26), (5, 3)], sz := 6, bytes := 64, zero := .agg [.nils, .int .i64 0, .int .i64 0, .int .i64 0, .int .i64 0, .int .i64 0], plain := false } := rfl
@[go_sem] theorem tab_34 : tab 34 = some { kind := .int .i64, sz := 1, bytes := 8, zero := .int .i64 0, plain := false } := rfl
@[go_sem] theorem tab_38 : tab 38 = some { kind := .func, sz := 1, bytes := 8, zero := .nilf, plain := false } := rfl
@[go_sem] theorem tab_40 : tab 40 = some { kind := .func, sz := 1, bytes := 8, zero := .nilf, plain := false } := rfl
@[go_sem] theorem tab_43 : tab 43 = some { kind := .func, sz := 1, bytes := 8, zero := .nilf, plain := false } := rfl
@[go_sem] theorem tab_44 : tab 44 = some { kind := .func, sz := 1, bytes := 8, zero := .nilf, plain := false } := rfl
@[go_sem] theorem tab_45 : tab 45 = some { kind := .func, sz := 1, bytes := 8, zero := .nilf, plain := false } := rfl
@[go_sem] theorem tab_46 : tab 46 = some { kind := .func, sz := 1, bytes := 8, zero := .nilf, plain := false } := rfl
@[go_sem] theorem tab_47 : tab 47 = some { kind := .func, sz := 1, bytes := 8, zero := .nilf, plain := false } := rfl
@[go_sem] theorem tab_49 : tab 49 = some { kind := .slice 71, sz := 1, bytes := 24, zero := .nils, plain := false } := rfl
@[go_sem] theorem tab_51 : tab 51 = some { kind := .func, sz := 1, bytes := 8, zero := .nilf, plain := false } := rfl
@[go_sem] theorem tab_55 : tab 55 = some { kind := .func, sz := 1, bytes := 8, zero := .nilf, plain := false } := rfl
@[go_sem] theorem tab_57 : tab 57 = some { kind := .func, sz := 1, bytes := 8, zero := .nilf, plain := false } := rfl
@[go_sem] theorem tab_61 : tab 61 = some { kind := .func, sz := 1, bytes := 8, zero := .nilf, plain := false } := rfl
@[go_sem] theorem tab_64 : tab 64 = some { kind := .func, sz := 1, bytes := 8, zero := .nilf, plain := false } := rfl
@[go_sem] theorem tab_65 : tab 65 = some { kind := .map 73 4, sz := 1, bytes := 8, zero := .nilm, plain := false } := rfl
@[go_sem] theorem tab_67 : tab 67 = some { kind := .int .u32, sz := 1, bytes := 4, zero := .int .u32 0, plain := false } := rfl
@[go_sem] theorem tab_68 : tab 68 = some { kind := .func, sz := 1, bytes := 8, zero := .nilf, plain := false } := rfl
@[go_sem] theorem tab_69 : tab 69 = some { kind := .func, sz := 1, bytes := 8, zero := .nilf, plain := false } := rfl
@[go_sem] theorem tab_70 : tab 70 = some { kind := .struct [(0, 3), (1, 5), (2, 3), (3, 5)], sz := 4, bytes := 32, zero := .agg [.int .i64 0, .int .u8 0, .int .i64 0, .int .u8 0], plain := true } := rfl
@[go_sem] theorem tab_71 : tab 71 = some { kind := .struct [(0, 3), (1, 5), (2, 3), (3, 5)], sz := 4, bytes := 32, zero := .agg [.int .i64 0, .int .u8 0, .int .i64 0, .int .u8 0], plain := true } := rfl
@[go_sem] theorem tab_72 : tab 72 = some { kind := .struct [(0, 3), (1, 5), (2, 3)], sz := 3, bytes := 24, zero := .agg [.int .i64 0, .int .u8 0, .int .i64 0], plain := true } := rfl
@[go_sem] theorem tab_73 : tab 73 = some { kind := .struct [(0, 3), (1, 5), (2, 3)], sz := 3, bytes := 24, zero := .agg [.int .i64 0, .int .u8 0, .int .i64 0], plain := true } := rfl
@[go_sem] theorem tab_74 : tab 74 = some { kind := .func, sz := 1, bytes := 8, zero := .nilf, plain := false } := rfl
@[go_sem] theorem tab_75 : tab 75 = some { kind := .struct [(0, 3), (1, 26), (3, 26), (5, 3)], sz := 6, bytes := 48, zero := .agg [.int .i64 0, .int .i64 0, .int .i64 0, .int .i64 0, .int .i64 0, .int .i64 0], plain := true } := rfl
@[go_sem] theorem tab_76 : tab 76 = some { kind := .struct [(0, 3), (1, 26), (3, 26), (5, 3)], sz := 6, bytes := 48, zero := .agg [.int .i64 0, .int .i64 0, .int .i64 0, .int .i64 0, .int .i64 0, .int .i64 0], plain := true } := rfl
@[go_sem] theorem tab_77 : tab 77 = some { kind := .func, sz := 1, bytes := 8, zero := .nilf, plain := false } := rfl
@[go_sem] theorem tab_79 : tab 79 = some { kind := .func, sz := 1, bytes := 8, zero := .nilf, plain := false } := rfl
@[go_sem] theorem tab_80 : tab 80 = some { kind := .func, sz := 1, bytes := 8, zero := .nilf, plain := false } := rfl
@[go_sem] theorem tab_81 : tab 81 = some { kind := .func, sz := 1, bytes := 8, zero := .nilf, plain := false } := rfl
@[go_sem] theorem tab_82 : tab 82 = some { kind := .ptr, sz := 1, bytes := 8, zero := .nilp, plain := false } := rfl
@[go_sem] theorem tab_83 : tab 83 = some { kind := .map 73 5, sz := 1, bytes := 8, zero := .nilm, plain := false } := rfl
@[go_sem] theorem tab_84 : tab 84 = some { kind := .struct [(0, 3), (1, 3)], sz := 2, bytes := 16, zero := .agg [.int .i64 0, .int .i64 0], plain := true } := rfl
@[go_sem] theorem tab_85 : tab 85 = some { kind := .struct [(0, 3), (1, 3)], sz := 2, bytes := 16, zero := .agg [.int .i64 0, .int .i64 0], plain := true } := rfl
@[go_sem] theorem tab_86 : tab 86 = some { kind := .int .u16, sz := 1, bytes := 2, zero := .int .u16 0, plain := false } := rfl
@[go_sem] theorem tab_87 : tab 87 = some { kind := .slice 3, sz := 1, bytes := 24, zero := .nils, plain := false } := rfl
@[go_sem] theorem tab_89 : tab 89 = some { kind := .struct [(0, 87), (1, 3)], sz := 2, bytes := 32, zero := .agg [.nils, .int .i64 0], plain := false } := rfl
@[go_sem] theorem tab_90 : tab 90 = some { kind := .func, sz := 1, bytes := 8, zero := .nilf, plain := false } := rfl
@[go_sem] theorem tab_91 : tab 91 = some { kind := .func, sz := 1, bytes := 8, zero := .nilf, plain := false } := rfl
@[go_sem] theorem tab_92 : tab 92 = some { kind := .struct [(0, 3), (1, 3)], sz := 2, bytes := 16, zero := .agg [.int .i64 0, .int .i64 0], plain := true } := rfl
@[go_sem] theorem tab_93 : tab 93 = some { kind := .struct [(0, 3), (1, 3)], sz := 2, bytes := 16, zero := .agg [.int .i64 0, .int .i64 0], plain := true } := rfl
@[go_sem] theorem tab_94 : tab 94 = some { kind := .func, sz := 1, bytes := 8, zero := .nilf, plain := false } := rfl
@[go_sem] theorem tab_95 : tab 95 = some { kind := .func, sz := 1, bytes := 8, zero := .nilf, plain := false } := rfl
@[go_sem] theorem tab_96 : tab 96 = some { kind := .func, sz := 1, bytes := 8, zero := .nilf, plain := false } := rfl
@[go_sem] theorem tab_97 : tab 97 = some { kind := .func, sz := 1, bytes := 8, zero := .nilf, plain := false } := rfl
@[go_sem] theorem tab_98 : tab 98 = some { kind := .func, sz := 1, bytes := 8, zero := .nilf, plain := false } := rfl
@[go_sem] theorem tab_99 : tab 99 = some { kind := .ptr, sz := 1, bytes := 8, zero := .nilp, plain := false } := rfl
@[go_sem] theorem tab_100 : tab 100 = some { kind := .func, sz := 1, bytes := 8, zero := .nilf, plain := false } := rfl
@[go_sem] theorem tab_101 : tab 101 = some { kind := .array 61 26, sz := 122, bytes := 976, zero := .agg [.int .i64 0, .int .i64 0, .int .i64 0, .int .i64 0, .int .i64 0, .int .i64 0, .int .i64 0, .int .i64 0, .int .i64 0, .int .i64 0, .int .i64 0, .int .i64 0, .int .i64 0, .int .i64 0, .int .i64 0, .int .i64 0, .int .i64 0, .int .i64 0, .int .i64 0, .int .i64 0, .int .i64 0, .int .i64 0, .int .i64 0, .int .i64 0, .int .i64 0, .int .i64 0, .int .i64 0, .int .i64 0, .int .i64 0, .int .i64 0, .int .i64 0, .int .i64 0, .int .i64 0, .int .i64 0, .int .i64 0, .int .i64 0, .int .i64 0, .int .i64 0, .int .i64 0, .int .i64 0, .int .i64 0, .int .i64 0, .int .i64 0, .int .i64 0, .int .i64 0, .int .i64 0, .int .i64 0, .int .i64 0, .int .i64 0, .int .i64 0, .int .i64 0, .int .i64 0, .int .i64 0, .int .i64 0, .int .i64 0, .int .i64 0, .int .i64 0, .int .i64 0, .int .i64 0, .int .i64 0, .int .i64 0, .int .i64 0, .int .i64 0, .int .i64 0, .int .i64 0, .int .i64 0, .int .i64 0, .int .i64 0, .int .i64 0, .int .i64 0, .int .i64 0, .int .i64 0, .int .i64 0, .int .i64 0, .int .i64 0, .int .i64 0, .int .i64 0, .int .i64 0, .int .i64 0, .int .i64 0, .int .i64 0, .int .i64 0, .int .i64 0, .int .i64 0, .int .i64 0, .int .i64 0, .int .i64 0, .int .i64 0, .int .i64 0, .int .i64 0, .int .i64 0, .int .i64 0, .int .i64 0, .int .i64 0, .int .i64 0, .int .i64 0, .int .i64 0, .int .i64 0, .int .i64 0, .int .i64 0, .int .i64 0, .int .i64 0, .int .i64 0, .int .i64 0, .int .i64 0, .int .i64 0, .int .i64 0, .int .i64 0, .int .i64 0, .int .i64 0, .int .i64 0, .int .i64 0, .int .i64 0, .int .i64 0, .int .i64 0, .int .i64 0, .int .i64 0, .int .i64 0, .int .i64 0, .int .i64 0, .int .i64 0, .int .i64 0], plain := false } := rfl
@[go_sem] theorem tab_102 : tab 102 = some { kind := .array 61 4, sz := 61, bytes := 61, zero := .agg [.bool false, .bool false, .bool false, .bool false, .bool false, .bool false, .bool false, .bool false, .bool false, .bool false, .bool false, .bool false, .bool false, .bool false, .bool false, .bool false, .bool false, .bool false, .bool false, .bool false, .bool false, .bool false, .bool false, .bool false, .bool false, .bool false, .bool false, .bool false, .bool false, .bool false, .bool false, .bool false, .bool false, .bool false, .bool false, .bool false, .bool false, .bool false, .bool false, .bool false, .bool false, .bool false, .bool false, .bool false, .bool false, .bool false, .bool false, .bool false, .bool false, .bool false, .bool false, .bool false, .bool false, .bool false, .bool false, .bool false, .bool false, .bool false, .bool false, .bool false, .bool false], plain := false } := rfl
@[go_sem] theorem tab_103 : tab 103 = some { kind := .struct [(0, 28), (6, 101), (128, 102)], sz := 189, bytes := 1136, zero := .agg [.int .i64 0, .nils, .nils, .nils, .int .i64 0, .int .i64 0, .int .i64 0, .int .i64 0, .int .i64 0, .int .i64 0, .int .i64 0, .int .i64 0, .int .i64 0, .int .i64 0, .int .i64 0, .int .i64 0, .int .i64 0, .int .i64 0, .int .i64 0, .int .i64 0, .int .i64 0, .int .i64 0, .int .i64 0, .int .i64 0, .int .i64 0, .int .i64 0, .int .i64 0, .int .i64 0, .int .i64 0, .int .i64 0, .int .i64 0, .int .i64 0, .int .i64 0, .int .i64 0, .int .i64 0, .int .i64 0, .int .i64 0, .int .i64 0, .int .i64 0, .int .i64 0, .int .i64 0, .int .i64 0, .int .i64 0, .int .i64 0, .int .i64 0, .int .i64 0, .int .i64 0, .int .i64 0, .int .i64 0, .int .i64 0, .int .i64 0, .int .i64 0, .int .i64 0, .int .i64 0, .int .i64 0, .int .i64 0, .int .i64 0, .int .i64 0, .int .i64 0, .int .i64 0, .int .i64 0, .int .i64 0, .int .i64 0, .int .i64 0, .int .i64 0, .int .i64 0, .int .i64 0, .int .i64 0, .int .i64 0, .int .i64 0, .int .i64 0, .int .i64 0, .int .i64 0, .int .i64 0, .int .i64 0, .int .i64 0, .int .i64 0, .int .i64 0, .int .i64 0, .int .i64 0, .int .i64 0, .int .i64 0, .int .i64 0, .int .i64 0, .int .i64 0, .int .i64 0, .int .i64 0, .int .i64 0, .int .i64 0, .int .i64 0, .int .i64 0, .int .i64 0, .int .i64 0, .int .i64 0, .int .i64 0, .int .i64 0, .int .i64 0, .int .i64 0, .int .i64 0, .int .i64 0, .int .i64 0, .int .i64 0, .int .i64 0, .int .i64 0, .int .i64 0, .int .i64 0, .int .i64 0, .int .i64 0, .int .i64 0, .int .i64 0, .int .i64 0, .int .i64 0, .int .i64 0, .int .i64 0, .int .i64 0, .int .i64 0, .int .i64 0, .int .i64 0, .int .i64 0, .int .i64 0, .int .i64 0, .int .i64 0, .int .i64 0, .int .i64 0, .int .i64 0, .int .i64 0, .int .i64 0, .int .i64 0, .bool false, .bool false, .bool false, .bool false, .bool false, .bool false, .bool false, .bool false, .bool false, .bool false, .bool false, .bool false, .bool false, .bool false, .bool false, .bool false, .bool false, .bool false, .bool false, .bool false, .bool false, .bool false, .bool false, .bool false, .bool false, .bool false, .bool false, .bool false, .bool false, .bool false, .bool false, .bool false, .bool false, .bool false, .bool false, .bool false, .bool false, .bool false, .bool false, .bool false, .bool false, .bool false, .bool false, .bool false, .bool false, .bool false, .bool false, .bool false, .bool false, .bool false, .bool false, .bool false, .bool false, .bool false, .bool false, .bool false, .bool false, .bool false, .bool false, .bool false, .bool false], plain := false } := rfl
@[go_sem] theorem tab_104 : tab 104 = some { kind := .struct [(0, 28), (6, 101), (128, 102)], sz := 189, bytes := 1136, zero := .agg [.int .i64 0, .nils, .nils, .nils, .int .i64 0, .int .i64 0, .int .i64 0, .int .i64 0, .int .i64 0, .int .i64 0, .int .i64 0, .int .i64 0, .int .i64 0, .int .i64 0, .int .i64 0, .int .i64 0, .int .i64 0, .int .i64 0, .int .i64 0, .int .i64 0, .int .i64 0, .int .i64 0, .int .i64 0, .int .i64 0, .int .i64 0, .int .i64 0, .int .i64 0, .int .i64 0, .int .i64 0, .int .i64 0, .int .i64 0, .int .i64 0, .int .i64 0, .int .i64 0, .int .i64 0, .int .i64 0, .int .i64 0, .int .i64 0, .int .i64 0, .int .i64 0, .int .i64 0, .int .i64 0, .int .i64 0, .int .i64 0, .int .i64 0, .int .i64 0, .int .i64 0, .int .i64 0, .int .i64 0, .int .i64 0, .int .i64 0, .int .i64 0, .int .i64 0, .int .i64 0, .int .i64 0, .int .i64 0, .int .i64 0, .int .i64 0, .int .i64 0, .int .i64 0, .int .i64 0, .int .i64 0, .int .i64 0, .int .i64 0, .int .i64 0, .int .i64 0, .int .i64 0, .int .i64 0, .int .i64 0, .int .i64 0, .int .i64 0, .int .i64 0, .int .i64 0, .int .i64 0, .int .i64 0, .int .i64 0, .int .i64 0, .int .i64 0, .int .i64 0, .int .i64 0, .int .i64 0, .int .i64 0, .int .i64 0, .int .i64 0, .int .i64 0, .int .i64 0, .int .i64 0, .int .i64 0, .int .i64 0, .int .i64 0, .int .i64 0, .int .i64 0, .int .i64 0, .int .i64 0, .int .i64 0, .int .i64 0, .int .i64 0, .int .i64 0, .int .i64 0, .int .i64 0, .int .i64 0, .int .i64 0, .int .i64 0, .int .i64 0, .int .i64 0, .int .i64 0, .int .i64 0, .int .i64 0, .int .i64 0, .int .i64 0, .int .i64 0, .int .i64 0, .int .i64 0, .int .i64 0, .int .i64 0, .int .i64 0, .int .i64 0, .int .i64 0, .int .i64 0, .int .i64 0, .int .i64 0, .int .i64 0, .int .i64 0, .int .i64 0, .int .i64 0, .int .i64 0, .int .i64 0, .int .i64 0, .bool false, .bool false, .bool false, .bool false, .bool false, .bool false, .bool false, .bool false, .bool false, .bool false, .bool false, .bool false, .bool false, .bool false, .bool false, .bool false, .bool false, .bool false, .bool false, .bool false, .bool false, .bool false, .bool false, .bool false, .bool false, .bool false, .bool false, .bool false, .bool false, .bool false, .bool false, .bool false, .bool false, .bool false, .bool false, .bool false, .bool false, .bool false, .bool false, .bool false, .bool false, .bool false, .bool false, .bool false, .bool false, .bool false, .bool false, .bool false, .bool false, .bool false, .bool false, .bool false, .bool false, .bool false, .bool false, .bool false, .bool false, .bool false, .bool false, .bool false, .bool false], plain := false } := rfl
@[go_sem] theorem tab_105 : tab 105 = some { kind := .func, sz := 1, bytes := 8, zero := .nilf, plain := false } := rfl
@[go_sem] theorem tab_106 : tab 106 = some { kind := .func, sz := 1, bytes := 8, zero := .nilf, plain := false } := rfl
@[go_sem] theorem tab_107 : tab 107 = some { kind := .func, sz := 1, bytes := 8, zero := .nilf, plain := false } := rfl
@[go_sem] theorem tab_108 : tab 108 = some { kind := .func, sz := 1, bytes := 8, zero := .nilf, plain := false } := rfl
@[go_sem] theorem tab_109 : tab 109 = some { kind := .func, sz := 1, bytes := 8, zero := .nilf, plain := false } := rfl
@[go_sem] theorem tab_112 : tab 112 = some { kind := .func, sz := 1, bytes := 8, zero := .nilf, plain := false } := rfl
@[go_sem] theorem tab_115 : tab 115 = some { kind := .func, sz := 1, bytes := 8, zero := .nilf, plain := false } := rfl
@[go_sem] theorem tab_116 : tab 116 = some { kind := .func, sz := 1, bytes := 8, zero := .nilf, plain := false } := rfl
@[go_sem] theorem tab_117 : tab 117 = some { kind := .func, sz := 1, bytes := 8, zero := .nilf, plain := false } := rfl
@[go_sem] theorem tab_120 : tab 120 = some { kind := .func, sz := 1, bytes := 8, zero := .nilf, plain := false } := rfl
@[go_sem] theorem tab_123 : tab 123 = some { kind := .func, sz := 1, bytes := 8, zero := .nilf, plain := false } := rfl
@[go_sem] theorem tab_124 : tab 124 = some { kind := .map 3 4, sz := 1, bytes := 8, zero := .nilm, plain := false } := rfl
@[go_sem] theorem tab_128 : tab 128 = some { kind := .func, sz := 1, bytes := 8, zero := .nilf, plain := false } := rfl
@[go_sem] theorem tab_129 : tab 129 = some { kind := .func, sz := 1, bytes := 8, zero := .nilf, plain := false } := rfl
@[go_sem] theorem tab_130 : tab 130 = some { kind := .func, sz := 1, bytes := 8, zero := .nilf, plain := false } := rfl
@[go_sem] theorem tab_133 : tab 133 = some { kind := .struct [(0, 3), (1, 3), (2, 26)], sz := 4, bytes := 32, zero := .agg [.int .i64 0, .int .i64 0, .int .i64 0, .int .i64 0], plain := true } := rfl
@[go_sem] theorem tab_134 : tab 134 = some { kind := .slice 138, sz := 1, bytes := 24, zero := .nils, plain := false } := rfl
@[go_sem] theorem tab_136 : tab 136 = some { kind := .func, sz := 1, bytes := 8, zero := .nilf, plain := false } := rfl
@[go_sem] theorem tab_138 : tab 138 = some { kind := .struct [(0, 5), (1, 136)], sz := 2, bytes := 16, zero := .agg [.int .u8 0, .nilf], plain := false } := rfl
@[go_sem] theorem tab_139 : tab 139 = some { kind := .map 3 5, sz := 1, bytes := 8, zero := .nilm, plain := false } := rfl
@[go_sem] theorem tab_142 : tab 142 = some { kind := .func, sz := 1, bytes := 8, zero := .nilf, plain := false } := rfl
@[go_sem] theorem tab_143 : tab 143 = some { kind := .func, sz := 1, bytes := 8, zero := .nilf, plain := false } := rfl
@[go_sem] theorem tab_147 : tab 147 = some { kind := .int .u64, sz := 1, bytes := 8, zero := .int .u64 0, plain := false } := rfl
@[go_sem] theorem tab_148 : tab 148 = some { kind := .slice 26, sz := 1, bytes := 24, zero := .nils, plain := false } := rfl
@[go_sem] theorem tab_149 : tab 149 = some { kind := .func, sz := 1, bytes := 8, zero := .nilf, plain := false } := rfl
@[go_sem] theorem tab_150 : tab 150 = some { kind := .func, sz := 1, bytes := 8, zero := .nilf, plain := false } := rfl
@[go_sem] theorem tab_152 : tab 152 = some { kind := .func, sz := 1, bytes := 8, zero := .nilf, plain := false } := rfl
@[go_sem] theorem tab_156 : tab 156 = some { kind := .slice 142, sz := 1, bytes := 24, zero := .nils, plain := false } := rfl
@[go_sem] theorem tab_158 : tab 158 = some { kind := .int .i64, sz := 1, bytes := 8, zero := .int .i64 0, plain := false } := rfl
@[go_sem] theorem tab_166 : tab 166 = some { kind := .int .u64, sz := 1, bytes := 8, zero := .int .u64 0, plain := false } := rfl
@[go_sem] theorem tab_167 : tab 167 = some { kind := .int .u64, sz := 1, bytes := 8, zero := .int .u64 0, plain := false } := rfl
@[go_sem] theorem tab_171 : tab 171 = some { kind := .ptr, sz := 1, bytes := 8, zero := .nilp, plain := false } := rfl
end Cp
namespace Cp
open Go Go.Proofs
set_option maxRecDepth 10000
theorem in1_ok (lo hi n : Int) : PureC Try.prog 69 [.int .i64 n, .pim [.int .i64 lo], .pim [.int .i64 hi]] (.bool (!decide (lo ≤ n ∧ n ≤ hi))) := by
 refine PureC_of (fn := Try.f69) tabOK (by kernel_rfl) rfl (by kernel_rfl) (by simp [Try.f69]) (by simp [noids, noid, noidss, go_sem]) (by first | rfl | simp [noids, noid, noidss, go_sem]) ?_
 intro X hX0 hXs
 repeat' (first | (with_reducible refine sk ?_; intro K hK) | ((with_reducible first | refine rg (h := ?_) | refine nx ?_); try simp (disch := omega) only [go_sem, simprocAttr]) | (with_reducible refine bk ?_) | ((with_reducible refine' cE ?hv ?_ ?_); (case hv => first | rfl | (simp only [go_sem, simprocAttr]; rfl)); all_goals (intro hc; (try simp only [go_sem, simprocAttr] at hc); try (exfalso; omega))) | ((with_reducible first | refine grdS_split ?_ ?_ | refine lkG_split ?_ ?_) <;> intro hg <;> (try simp (disch := omega) only [hg, go_sem, simprocAttr]) <;> (try simp only [go_sem, simprocAttr] at hg) <;> (try (exfalso; omega))) | ((with_reducible refine fe ?_); refine ⟨_, (by simp only [Try.f69, go_sem, simprocAttr]; rfl), ?_⟩; first | rfl | (try simp only [go_sem, simprocAttr, seval])) | with_reducible intro (ep : Nat → Nat) | with_reducible apply_assumption -exfalso -symm only [*])
 ·simp; omega
 ·rw [Bool.eq_iff_iff]; simp; omega
theorem indexInt_ok (xs : List Int) (hx : xs.length ≤ 4611686018427387904) (g : FuncId) (caps : List Val) (hc : noids caps = true) (p : Int → Bool) (hp : ∀ x ∈ xs, PureC Try.prog g (.int .i64 x :: caps) (.bool (p x))) :
  PureC Try.prog 89 [.lst 1 (ints xs), .fn g caps] (.int .i64 (idxFrom p xs 0)) := by
 refine PureC_of (fn := Try.f89) tabOK (by kernel_rfl) rfl (by kernel_rfl) (by simp [Try.f89]) (by simp [noids, noid, noidss, go_sem, hc]) (by first | rfl | simp [noids, noid, noidss, go_sem, hc]) ?_
 intro X hX0 hXs
 repeat' (first | (with_reducible refine sk ?_; intro K hK) | ((with_reducible first | refine rg (h := ?_) | refine nx ?_); try simp (disch := omega) only [go_sem, simprocAttr]) | (with_reducible refine bk ?_) | ((with_reducible refine' cE ?hv ?_ ?_); (case hv => first | rfl | (simp only [go_sem, simprocAttr]; rfl)); all_goals (intro hc; (try simp only [go_sem, simprocAttr] at hc); try (exfalso; omega))) | ((with_reducible refine fe ?_); refine ⟨_, (by simp only [Try.f89, go_sem, simprocAttr]; rfl), ?_⟩; first | rfl | (try simp only [go_sem, simprocAttr, seval])) | with_reducible intro (ep : Nat → Nat) | with_reducible apply_assumption -exfalso -symm only [*])
 refine AW_range tabOK xs.length (fun k f H => f 0 = .lst 1 (ints xs) ∧ f 1 = .fn g caps ∧ H = none0 ∧ idxFrom p xs 0 = idxFrom p (xs.drop k) k) hx (by rw [hXs]; decide) (by decide) (by simp only [go_sem, simprocAttr]) (by simp only [go_sem, simprocAttr]) ⟨by simp only [go_sem, simprocAttr], by simp only [go_sem, simprocAttr], rfl, by simp⟩ ?_ ?_
 ·rintro k f H hk h8 h7 ⟨h0, h1, rfl, hr⟩
  obtain ⟨x, hx⟩ : ∃ x, xs[k]? = some x := ⟨_, List.getElem?_eq_getElem hk⟩
  repeat' (first | (with_reducible refine sk ?_; intro K hK) | ((first | (with_reducible first | refine rg (h := ?_) | refine nx ?_) | refine pK (hp x (List.mem_of_getElem? hx)) ?_); try simp (disch := omega) only [h0, h1, h8, h7, hx,go_sem, simprocAttr]) | (with_reducible refine bk ?_) | ((with_reducible refine' cE ?hv ?_ ?_); (case hv => first | rfl | (simp only [h0, h1, h8, h7, hx,go_sem, simprocAttr]; rfl)); all_goals (intro hc; (try simp only [go_sem, simprocAttr] at hc); try (exfalso; omega))) | ((with_reducible refine fe ?_); refine ⟨_, (by simp only [Try.f89, h0, h1, h8, h7, hx,go_sem, simprocAttr]; rfl), ?_⟩; first | rfl | (try simp only [h0, h1, h8, h7, hx,go_sem, simprocAttr, seval])) | with_reducible intro (ep : Nat → Nat) | with_reducible apply_assumption -exfalso -symm only [*])
  ·rw [hr, drop_cons hx]; simp [idxFrom, hc]
  ·rw [hr, drop_cons hx]; simp [idxFrom, hc]
 ·rintro f H h8 h7 ⟨h0, h1, rfl, hr⟩
  repeat' (first | (with_reducible refine sk ?_; intro K hK) | ((with_reducible first | refine rg (h := ?_) | refine nx ?_); try simp (disch := omega) only [go_sem, simprocAttr]) | (with_reducible refine bk ?_) | ((with_reducible refine' cE ?hv ?_ ?_); (case hv => first | rfl | (simp only [go_sem, simprocAttr]; rfl)); all_goals (intro hc; (try simp only [go_sem, simprocAttr] at hc); try (exfalso; omega))) | ((with_reducible refine fe ?_); refine ⟨_, (by simp only [Try.f89, go_sem, simprocAttr]; rfl), ?_⟩; first | rfl | (try simp only [go_sem, simprocAttr, seval])) | with_reducible intro (ep : Nat → Nat) | with_reducible apply_assumption -exfalso -symm only [*])
  rw [hr]; simp [idxFrom]
theorem containsInt_ok (xs : List Int) (hx : xs.length ≤ 4611686018427387904) (g : FuncId) (caps : List Val) (hc : noids caps = true) (p : Int → Bool) (hp : ∀ x ∈ xs, PureC Try.prog g (.int .i64 x :: caps) (.bool (p x))) :
  PureC Try.prog 68 [.lst 1 (ints xs), .fn g caps] (.bool (xs.any p)) := by
 refine PureC_of (fn := Try.f68) tabOK (by kernel_rfl) rfl (by kernel_rfl) (by simp [Try.f68]) (by simp [noids, noid, noidss, go_sem, hc]) (by first | rfl | simp [noids, noid, noidss, go_sem, hc]) ?_
 intro X hX0 hXs
 repeat' (first | (with_reducible refine sk ?_; intro K hK) | ((first | (with_reducible first | refine rg (h := ?_) | refine nx ?_) | refine pK (indexInt_ok xs hx g caps hc p hp) ?_); try simp (disch := omega) only [go_sem, simprocAttr]) | (with_reducible refine bk ?_) | ((with_reducible refine' cE ?hv ?_ ?_); (case hv => first | rfl | (simp only [go_sem, simprocAttr]; rfl)); all_goals (intro hc; (try simp only [go_sem, simprocAttr] at hc); try (exfalso; omega))) | ((with_reducible refine fe ?_); refine ⟨_, (by simp only [Try.f68, go_sem, simprocAttr]; rfl), ?_⟩; first | rfl | (try simp only [go_sem, simprocAttr, seval])) | with_reducible intro (ep : Nat → Nat) | with_reducible apply_assumption -exfalso -symm only [*])
 exact idxFrom_neg (Int.le_refl 0)
theorem in_ok (xs : List Int) (hx : xs.length ≤ 4611686018427387904) (lo hi : Int) : PureC Try.prog 45 [.int .i64 lo, .int .i64 hi, .lst 1 (ints xs)] (.bool (xs.all fun n => decide (lo ≤ n ∧ n ≤ hi))) := by
 refine PureC_of (fn := Try.f45) tabOK (by kernel_rfl) rfl (by kernel_rfl) (by simp [Try.f45]) (by simp [noids, noid, noidss, go_sem]) (by first | rfl | simp [noids, noid, noidss, go_sem]) ?_
 intro X hX0 hXs
 repeat' (first | (with_reducible refine sk ?_; intro K hK) | ((first | (with_reducible first | refine rg (h := ?_) | refine nx ?_) | refine pK (containsInt_ok xs hx _ _ (by rfl) (fun n => !decide (lo ≤ n ∧ n ≤ hi)) (fun n _ => in1_ok lo hi n)) ?_); try simp (disch := omega) only [go_sem, simprocAttr]) | (with_reducible refine bk ?_) | ((with_reducible refine' cE ?hv ?_ ?_); (case hv => first | rfl | (simp only [go_sem, simprocAttr]; rfl)); all_goals (intro hc; (try simp only [go_sem, simprocAttr] at hc); try (exfalso; omega))) | ((with_reducible refine fe ?_); refine ⟨_, (by simp only [Try.f45, go_sem, simprocAttr]; rfl), ?_⟩; first | rfl | (try simp only [go_sem, simprocAttr, seval])) | with_reducible intro (ep : Nat → Nat) | with_reducible apply_assumption -exfalso -symm only [*])
 simp [List.all_eq_not_any_not]
theorem in_1 (lo hi a : Int) : PureC Try.prog 45 [.int .i64 lo, .int .i64 hi, .lst 1 [[.int .i64 a]]] (.bool (decide (lo ≤ a ∧ a ≤ hi))) := by
 have := in_ok [a] (by simp) lo hi
 simpa [ints] using this
theorem in_2 (lo hi a b : Int) : PureC Try.prog 45 [.int .i64 lo, .int .i64 hi, .lst 1 [[.int .i64 a], [.int .i64 b]]] (.bool (decide ((lo ≤ a ∧ a ≤ hi) ∧ lo ≤ b ∧ b ≤ hi))) := by
 have := in_ok [a, b] (by simp) lo hi
 simpa [ints] using this
theorem ordered_ok (s : Span) (lo hi : Int) : PureC Try.prog 54 [.int .i64 lo, .int .i64 hi, encSpan s] (.bool (decide (lo ≤ s.lo ∧ s.lo ≤ s.hi ∧ s.hi ≤ hi))) := by
 refine PureC_of (fn := Try.f54) tabOK (by kernel_rfl) rfl (by kernel_rfl) (by simp [Try.f54]) (by simp [noids, noid, noidss, go_sem, encSpan]) (by first | rfl | simp [noids, noid, noidss, go_sem, encSpan]) ?_
 intro X hX0 hXs
 repeat' (first | (with_reducible refine sk ?_; intro K hK) | ((first | (with_reducible first | refine rg (h := ?_) | refine nx ?_) | refine pK (in_2 _ _ _ _) ?_); try simp (disch := omega) only [encSpan,go_sem, simprocAttr]) | (with_reducible refine bk ?_) | ((with_reducible refine' cE ?hv ?_ ?_); (case hv => first | rfl | (simp only [encSpan,go_sem, simprocAttr]; rfl)); all_goals (intro hc; (try simp only [go_sem, simprocAttr] at hc); try (exfalso; omega))) | ((with_reducible first | refine grdS_split ?_ ?_ | refine lkG_split ?_ ?_) <;> intro hg <;> (try simp (disch := omega) only [hg, encSpan,go_sem, simprocAttr]) <;> (try simp only [go_sem, simprocAttr] at hg) <;> (try (exfalso; omega))) | ((with_reducible refine fe ?_); refine ⟨_, (by simp only [Try.f54, encSpan,go_sem, simprocAttr]; rfl), ?_⟩; first | rfl | (try simp only [encSpan,go_sem, simprocAttr, seval])) | with_reducible intro (ep : Nat → Nat) | with_reducible apply_assumption -exfalso -symm only [*])
 all_goals (rw [Bool.eq_iff_iff]; simp; omega)
theorem isNaN_ok (a : Int) : PureC Try.prog 90 [.int .i64 a] (.bool false) := by
 refine PureC_of (fn := Try.f90) tabOK (by kernel_rfl) rfl (by kernel_rfl) (by simp [Try.f90]) (by simp [noids, noid, noidss, go_sem]) (by first | rfl | simp [noids, noid, noidss, go_sem]) ?_
 intro X hX0 hXs
 repeat' (first | (with_reducible refine sk ?_; intro K hK) | ((with_reducible first | refine rg (h := ?_) | refine nx ?_); try simp (disch := omega) only [go_sem, simprocAttr]) | (with_reducible refine bk ?_) | ((with_reducible refine' cE ?hv ?_ ?_); (case hv => first | rfl | (simp only [go_sem, simprocAttr]; rfl)); all_goals (intro hc; (try simp only [go_sem, simprocAttr] at hc); try (exfalso; omega))) | ((with_reducible refine fe ?_); refine ⟨_, (by simp only [Try.f90, go_sem, simprocAttr]; rfl), ?_⟩; first | rfl | (try simp only [go_sem, simprocAttr, seval])) | with_reducible intro (ep : Nat → Nat) | with_reducible apply_assumption -exfalso -symm only [*])
 try simp
def cmpI (a b : Int) : Int := if a < b then -1 else if b < a then 1 else 0
theorem compare_ok (a b : Int) : PureC Try.prog 72 [.int .i64 a, .int .i64 b] (.int .i64 (cmpI a b)) := by
 refine PureC_of (fn := Try.f72) tabOK (by kernel_rfl) rfl (by kernel_rfl) (by simp [Try.f72]) (by simp [noids, noid, noidss, go_sem]) (by first | rfl | simp [noids, noid, noidss, go_sem]) ?_
 intro X hX0 hXs
 repeat' (first | (with_reducible refine sk ?_; intro K hK) | ((first | (with_reducible first | refine rg (h := ?_) | refine nx ?_) | refine pK (isNaN_ok _) ?_); try simp (disch := omega) only [go_sem, simprocAttr]) | (with_reducible refine bk ?_) | ((with_reducible refine' cE ?hv ?_ ?_); (case hv => first | rfl | (simp only [go_sem, simprocAttr]; rfl)); all_goals (intro hc; (try simp only [go_sem, simprocAttr] at hc); try (exfalso; omega))) | ((with_reducible refine fe ?_); refine ⟨_, (by simp only [Try.f72, go_sem, simprocAttr]; rfl), ?_⟩; first | rfl | (try simp only [go_sem, simprocAttr, seval])) | with_reducible intro (ep : Nat → Nat) | with_reducible apply_assumption -exfalso -symm only [*])
 all_goals (simp only [cmpI]; grind)
end Cp
namespace Cp
open Go Go.Proofs
set_option maxRecDepth 10000
theorem rwithin_ok (n lo hi : Int) : PureC Try.prog 47 [.int .i64 n, .int .i64 lo, .int .i64 hi] (.bool (decide (lo ≤ n ∧ n ≤ hi))) := by
 refine PureC_of (fn := Try.f47) tabOK (by kernel_rfl) rfl (by kernel_rfl) (by simp [Try.f47]) (by simp [noids, noid, noidss, go_sem]) (by first | rfl | simp [noids, noid, noidss, go_sem]) ?_
 intro X hX0 hXs
 repeat' (first | (with_reducible refine sk ?_; intro K hK) | ((with_reducible first | refine rg (h := ?_) | refine nx ?_); try simp (disch := omega) only [go_sem, simprocAttr]) | (with_reducible refine bk ?_) | ((with_reducible refine' cE ?hv ?_ ?_); (case hv => first | rfl | (simp only [go_sem, simprocAttr]; rfl)); all_goals (intro hc; (try simp only [go_sem, simprocAttr] at hc); try (exfalso; omega))) | ((with_reducible first | refine grdS_split ?_ ?_ | refine lkG_split ?_ ?_) <;> intro hg <;> (try simp (disch := omega) only [hg, go_sem, simprocAttr]) <;> (try simp only [go_sem, simprocAttr] at hg) <;> (try (exfalso; omega))) | ((with_reducible refine fe ?_); refine ⟨_, (by simp only [Try.f47, go_sem, simprocAttr]; rfl), ?_⟩; first | rfl | (try simp only [go_sem, simprocAttr, seval])) | with_reducible intro (ep : Nat → Nat) | with_reducible apply_assumption -exfalso -symm only [*])
 all_goals (rw [Bool.eq_iff_iff]; simp; omega)
theorem rspanned_ok (s : Span) (lo hi : Int) : PureC Try.prog 77 [encSpan s, .int .i64 lo, .int .i64 hi] (.bool (decide (lo ≤ s.lo ∧ s.lo ≤ s.hi ∧ s.hi ≤ hi))) := by
 refine PureC_of (fn := Try.f77) tabOK (by kernel_rfl) rfl (by kernel_rfl) (by simp [Try.f77]) (by simp [noids, noid, noidss, go_sem, encSpan]) (by first | rfl | simp [noids, noid, noidss, go_sem, encSpan]) ?_
 intro X hX0 hXs
 repeat' (first | (with_reducible refine sk ?_; intro K hK) | ((with_reducible first | refine rg (h := ?_) | refine nx ?_); try simp (disch := omega) only [encSpan,go_sem, simprocAttr]) | (with_reducible refine bk ?_) | ((with_reducible refine' cE ?hv ?_ ?_); (case hv => first | rfl | (simp only [encSpan,go_sem, simprocAttr]; rfl)); all_goals (intro hc; (try simp only [go_sem, simprocAttr] at hc); try (exfalso; omega))) | ((with_reducible first | refine grdS_split ?_ ?_ | refine lkG_split ?_ ?_) <;> intro hg <;> (try simp (disch := omega) only [hg, encSpan,go_sem, simprocAttr]) <;> (try simp only [go_sem, simprocAttr] at hg) <;> (try (exfalso; omega))) | ((with_reducible refine fe ?_); refine ⟨_, (by simp only [Try.f77, encSpan,go_sem, simprocAttr]; rfl), ?_⟩; first | rfl | (try simp only [encSpan,go_sem, simprocAttr, seval])) | with_reducible intro (ep : Nat → Nat) | with_reducible apply_assumption -exfalso -symm only [*])
 all_goals (rw [Bool.eq_iff_iff]; simp; omega)
theorem rcurve_ok (l : List Pt) (hl : l.length ≤ 4611686018427387904) : PureC Try.prog 43 [.lst 2 (l.map cPt)] (.bool (curveOK l)) := by
 refine PureC_of (fn := Try.f43) tabOK (by kernel_rfl) rfl (by kernel_rfl) (by simp [Try.f43]) (by simp [noids, noid, noidss, go_sem]) (by first | rfl | simp [noids, noid, noidss, go_sem]) ?_
 intro X hX0 hXs
 by_cases hne : l = []
 ·subst hne
  repeat' (first | (with_reducible refine sk ?_; intro K hK) | ((first | (with_reducible first | refine rg (h := ?_) | refine nx ?_) | refine pK (rwithin_ok _ _ _) ?_); try simp (disch := omega) only [go_sem, simprocAttr]) | (with_reducible refine bk ?_) | ((with_reducible refine' cE ?hv ?_ ?_); (case hv => first | rfl | (simp only [go_sem, simprocAttr]; rfl)); all_goals (intro hc; (try simp only [go_sem, simprocAttr] at hc); try (exfalso; omega))) | ((with_reducible first | refine grdS_split ?_ ?_ | refine lkG_split ?_ ?_) <;> intro hg <;> (try simp (disch := omega) only [hg, go_sem, simprocAttr]) <;> (try simp only [go_sem, simprocAttr] at hg) <;> (try (exfalso; omega))) | ((with_reducible refine fe ?_); refine ⟨_, (by simp only [Try.f43, go_sem, simprocAttr]; rfl), ?_⟩; first | rfl | (try simp only [go_sem, simprocAttr, seval])) | with_reducible intro (ep : Nat → Nat) | with_reducible apply_assumption -exfalso -symm only [*])
  try rfl
 ·obtain ⟨p0, hp0⟩ : ∃ x, l[0]? = some x := ⟨_, List.getElem?_eq_getElem (List.length_pos_iff.2 hne)⟩
  repeat' (first | (with_reducible refine sk ?_; intro K hK) | ((first | (with_reducible first | refine rg (h := ?_) | refine nx ?_) | refine pK (rwithin_ok _ _ _) ?_); try simp (disch := omega) only [hp0, cPt,go_sem, simprocAttr]) | (with_reducible refine bk ?_) | ((with_reducible refine' cE ?hv ?_ ?_); (case hv => first | rfl | (simp only [hp0, cPt,go_sem, simprocAttr]; rfl)); all_goals (intro hc; (try simp only [go_sem, simprocAttr] at hc); try (exfalso; omega))) | ((with_reducible first | refine grdS_split ?_ ?_ | refine lkG_split ?_ ?_) <;> intro hg <;> (try simp (disch := omega) only [hg, hp0, cPt,go_sem, simprocAttr]) <;> (try simp only [go_sem, simprocAttr] at hg) <;> (try (exfalso; omega))) | ((with_reducible refine fe ?_); refine ⟨_, (by simp only [Try.f43, hp0, cPt,go_sem, simprocAttr]; rfl), ?_⟩; first | rfl | (try simp only [hp0, cPt,go_sem, simprocAttr, seval])) | with_reducible intro (ep : Nat → Nat) | with_reducible apply_assumption -exfalso -symm only [*])
  all_goals first | grind [curveOK_iff hp0] | skip
  ·have e0 : curveOK l = curveFrom ⟨-1, 0⟩ l := by rw [curveOK_iff hp0]; simp [hc]; omega
   refine AW_block (AW_loop (fun n f H => ∃ k : Nat, n = l.length - k ∧ k ≤ l.length ∧ (f 0 = .lst 2 (l.map cPt) ∧ f 3 = .int .i64 k ∧ H = none0) ∧ ∃ a : Pt, (k = 0 → a = ⟨-1, 0⟩) ∧ (∀ j, k = j + 1 → l[j]? = some a) ∧ -1 ≤ a.m ∧ 0 ≤ a.d ∧ a.m ≤ 600 ∧ curveOK l = curveFrom a (l.drop k)) l.length
    ⟨0, by simp, Nat.zero_le _, by (and_intros <;> first | rfl | (simp only [go_sem, simprocAttr]; done) | (simp only [go_sem, simprocAttr]; rfl)), ⟨-1, 0⟩, by simp, by simp, by simp, by simp, by simp, e0⟩ ?_)
   rintro n f H ⟨k, rfl, hk, ⟨h0, h3, rfl⟩, a, ha0, ha1, ha2, ha3, ha4, hr⟩
   by_cases hlt : k < l.length
   ·obtain ⟨x, hx⟩ : ∃ x, l[k]? = some x := ⟨_, List.getElem?_eq_getElem hlt⟩
    rw [drop_cons hx] at hr
    simp only [curveFrom] at hr
    rcases k with _ | j
    ·obtain rfl := ha0 rfl
     repeat' (first | (with_reducible refine sk ?_; intro K hK) | ((first | (with_reducible first | refine rg (h := ?_) | refine nx ?_) | refine pK (rwithin_ok _ _ _) ?_); try simp (disch := omega) only [h0, h3, hx, cPt,go_sem, simprocAttr]) | (with_reducible refine bk ?_) | ((with_reducible refine' cE ?hv ?_ ?_); (case hv => first | rfl | (simp only [h0, h3, hx, cPt,go_sem, simprocAttr]; rfl)); all_goals (intro hc; (try simp only [go_sem, simprocAttr] at hc); try (exfalso; omega))) | ((with_reducible first | refine grdS_split ?_ ?_ | refine lkG_split ?_ ?_) <;> intro hg <;> (try simp (disch := omega) only [hg, h0, h3, hx, cPt,go_sem, simprocAttr]) <;> (try simp only [go_sem, simprocAttr] at hg) <;> (try (exfalso; omega))) | ((with_reducible refine fe ?_); refine ⟨_, (by simp only [Try.f43, h0, h3, hx, cPt,go_sem, simprocAttr]; rfl), ?_⟩; first | rfl | (try simp only [h0, h3, hx, cPt,go_sem, simprocAttr, seval])) | with_reducible intro (ep : Nat → Nat) | with_reducible apply_assumption -exfalso -symm only [*])
     ·grind
     ·grind
     ·refine ⟨_, ?_, 0 + 1, rfl, by omega, by (and_intros <;> first | rfl | (simp only [h0, h3, go_sem, simprocAttr]; done) | (simp only [h0, h3, go_sem, simprocAttr]; rfl)), x, ?_⟩
      ·omega
      ·grind
    ·have haj := ha1 j rfl
     repeat' (first | (with_reducible refine sk ?_; intro K hK) | ((first | (with_reducible first | refine rg (h := ?_) | refine nx ?_) | refine pK (rwithin_ok _ _ _) ?_); try simp (disch := omega) only [h0, h3, hx, haj, cPt,go_sem, simprocAttr]) | (with_reducible refine bk ?_) | ((with_reducible refine' cE ?hv ?_ ?_); (case hv => first | rfl | (simp only [h0, h3, hx, haj, cPt,go_sem, simprocAttr]; rfl)); all_goals (intro hc; (try simp only [go_sem, simprocAttr] at hc); try (exfalso; omega))) | ((with_reducible first | refine grdS_split ?_ ?_ | refine lkG_split ?_ ?_) <;> intro hg <;> (try simp (disch := omega) only [hg, h0, h3, hx, haj, cPt,go_sem, simprocAttr]) <;> (try simp only [go_sem, simprocAttr] at hg) <;> (try (exfalso; omega))) | ((with_reducible refine fe ?_); refine ⟨_, (by simp only [Try.f43, h0, h3, hx, haj, cPt,go_sem, simprocAttr]; rfl), ?_⟩; first | rfl | (try simp only [h0, h3, hx, haj, cPt,go_sem, simprocAttr, seval])) | with_reducible intro (ep : Nat → Nat) | with_reducible apply_assumption -exfalso -symm only [*])
     all_goals first | grind | skip
     refine ⟨_, ?_, j + 1 + 1, rfl, by omega, by (and_intros <;> first | rfl | (simp only [h0, h3, go_sem, simprocAttr]; done) | (simp only [h0, h3, go_sem, simprocAttr]; rfl)), x, ?_⟩
     ·omega
     ·grind
   ·repeat' (first | (with_reducible refine sk ?_; intro K hK) | ((with_reducible first | refine rg (h := ?_) | refine nx ?_); try simp (disch := omega) only [h0, h3,go_sem, simprocAttr]) | (with_reducible refine bk ?_) | ((with_reducible refine' cE ?hv ?_ ?_); (case hv => first | rfl | (simp only [h0, h3,go_sem, simprocAttr]; rfl)); all_goals (intro hc; (try simp only [go_sem, simprocAttr] at hc); try (exfalso; omega))) | ((with_reducible first | refine grdS_split ?_ ?_ | refine lkG_split ?_ ?_) <;> intro hg <;> (try simp (disch := omega) only [hg, h0, h3,go_sem, simprocAttr]) <;> (try simp only [go_sem, simprocAttr] at hg) <;> (try (exfalso; omega))) | ((with_reducible refine fe ?_); refine ⟨_, (by simp only [Try.f43, h0, h3,go_sem, simprocAttr]; rfl), ?_⟩; first | rfl | (try simp only [h0, h3,go_sem, simprocAttr, seval])) | with_reducible intro (ep : Nat → Nat) | with_reducible apply_assumption -exfalso -symm only [*])
    rw [hr, drop_none (show l.length ≤ k by omega)]; rfl
end Cp
namespace Cp
open Go Go.Proofs
set_option maxRecDepth 10000
theorem curved_ok (l : List Pt) (hl : l.length ≤ 4611686018427387904) : PureC Try.prog 44 [.lst 2 (l.map cPt)] (.bool (curveOK l)) := by
 refine PureC_of (fn := Try.f44) tabOK (by kernel_rfl) rfl (by kernel_rfl) (by simp [Try.f44]) (by simp [noids, noid, noidss, go_sem]) (by first | rfl | simp [noids, noid, noidss, go_sem]) ?_
 intro X hX0 hXs
 repeat' (first | (with_reducible refine sk ?_; intro K hK) | ((with_reducible first | refine rg (h := ?_) | refine rgS [3, 5] (h := ?_) | refine nx ?_); try simp (disch := omega) only [go_sem, simprocAttr]) | (with_reducible refine bk ?_) | ((with_reducible refine' cE ?hv ?_ ?_); (case hv => first | rfl | (simp only [go_sem, simprocAttr]; rfl)); all_goals (intro hc; (try simp only [go_sem, simprocAttr] at hc); try (exfalso; omega))) | ((with_reducible first | refine grdS_split ?_ ?_ | refine lkG_split ?_ ?_) <;> intro hg <;> (try simp (disch := omega) only [hg, go_sem, simprocAttr]) <;> (try simp only [go_sem, simprocAttr] at hg) <;> (try (exfalso; omega))) | ((with_reducible refine fe ?_); refine ⟨_, (by simp only [Try.f44, go_sem, simprocAttr]; rfl), ?_⟩; first | rfl | (try simp only [go_sem, simprocAttr, seval])) | with_reducible intro (ep : Nat → Nat) | with_reducible apply_assumption -exfalso -symm only [*])
 refine AW_range tabOK l.length (fun k f H => f 0 = .lst 2 (l.map cPt) ∧ f 7 = .lst 2 (l.map cPt) ∧ ∃ e a, f 3 = .ptr 3 e 2 0 0 ∧ H 3 = some (e, .arr 2 [cPt a]) ∧ -1 ≤ a.m ∧ 0 ≤ a.d ∧ a.m ≤ 600 ∧ curveFrom ⟨-1, 0⟩ l = curveFrom a (l.drop k)) hl (by rw [hXs]; decide) (by decide) (by simp only [go_sem, simprocAttr]) (by simp only [go_sem, simprocAttr]) ⟨by simp only [go_sem, simprocAttr], by simp only [go_sem, simprocAttr], _, ⟨-1, 0⟩, by simp only [go_sem, simprocAttr]; rfl, by simp only [go_sem, simprocAttr]; rfl, by simp, by simp, by simp, by simp⟩ ?_ ?_
 ·rintro k f H hk h9 h8 ⟨h0, h7, e, a, h3, hH, ha1, ha2, ha3, hr⟩
  obtain ⟨x, hx⟩ : ∃ x, l[k]? = some x := ⟨_, List.getElem?_eq_getElem hk⟩
  refine AW_keep [3] ?_
  repeat' (first | (with_reducible refine sk ?_; intro K hK) | ((first | (with_reducible first | refine rg (h := ?_) | refine rgS [3, 5] (h := ?_) | refine nx ?_) | refine pK (in_1 _ _ _) ?_); try simp (disch := omega) only [h0, h3, h7, h8, h9, hx, hH, cPt,go_sem, simprocAttr]) | (with_reducible refine bk ?_) | ((with_reducible refine' cE ?hv ?_ ?_); (case hv => first | rfl | (simp only [h0, h3, h7, h8, h9, hx, hH, cPt,go_sem, simprocAttr]; rfl)); all_goals (intro hc; (try simp only [go_sem, simprocAttr] at hc); try (exfalso; omega))) | ((with_reducible first | refine grdS_split ?_ ?_ | refine lkG_split ?_ ?_) <;> intro hg <;> (try simp (disch := omega) only [hg, h0, h3, h7, h8, h9, hx, hH, cPt,go_sem, simprocAttr]) <;> (try simp only [go_sem, simprocAttr] at hg) <;> (try (exfalso; omega))) | ((with_reducible refine fe ?_); refine ⟨_, (by simp only [Try.f44, h0, h3, h7, h8, h9, hx, hH, cPt,go_sem, simprocAttr]; rfl), ?_⟩; first | rfl | (try simp only [h0, h3, h7, h8, h9, hx, hH, cPt,go_sem, simprocAttr, seval])) | with_reducible intro (ep : Nat → Nat) | with_reducible apply_assumption -exfalso -symm only [*])
  ·refine curveOK_false ?_
   rw [hr, drop_cons hx, curveFrom]; simp; omega
  ·refine curveOK_false ?_
   rw [hr, drop_cons hx, curveFrom]; simp; omega
  ·refine ⟨e, x, rfl, rfl, by omega, by omega, by omega, ?_⟩
   rw [hr, drop_cons hx, curveFrom]; simp; omega
 ·rintro f H h9 h8 ⟨h0, h7, e, a, h3, hH, ha1, ha2, ha3, hr⟩
  have hr' : curveFrom ⟨-1, 0⟩ l = true := by rw [hr, drop_none (Nat.le_refl _)]; rfl
  cases l with
  | nil =>
   repeat' (first | (with_reducible refine sk ?_; intro K hK) | ((first | (with_reducible first | refine rg (h := ?_) | refine rgS [3, 5] (h := ?_) | refine nx ?_) | refine pK (in_1 _ _ _) ?_); try simp (disch := omega) only [h0,go_sem, simprocAttr]) | (with_reducible refine bk ?_) | ((with_reducible refine' cE ?hv ?_ ?_); (case hv => first | rfl | (simp only [h0,go_sem, simprocAttr]; rfl)); all_goals (intro hc; (try simp only [go_sem, simprocAttr] at hc); try (exfalso; omega))) | ((with_reducible first | refine grdS_split ?_ ?_ | refine lkG_split ?_ ?_) <;> intro hg <;> (try simp (disch := omega) only [hg, h0,go_sem, simprocAttr]) <;> (try simp only [go_sem, simprocAttr] at hg) <;> (try (exfalso; omega))) | ((with_reducible refine fe ?_); refine ⟨_, (by simp only [Try.f44, h0,go_sem, simprocAttr]; rfl), ?_⟩; first | rfl | (try simp only [h0,go_sem, simprocAttr, seval])) | with_reducible intro (ep : Nat → Nat) | with_reducible apply_assumption -exfalso -symm only [*])
   try rfl
  | cons p l =>
   repeat' (first | (with_reducible refine sk ?_; intro K hK) | ((first | (with_reducible first | refine rg (h := ?_) | refine rgS [3, 5] (h := ?_) | refine nx ?_) | refine pK (in_1 _ _ _) ?_); try simp (disch := omega) only [h0, cPt,go_sem, simprocAttr]) | (with_reducible refine bk ?_) | ((with_reducible refine' cE ?hv ?_ ?_); (case hv => first | rfl | (simp only [h0, cPt,go_sem, simprocAttr]; rfl)); all_goals (intro hc; (try simp only [go_sem, simprocAttr] at hc); try (exfalso; omega))) | ((with_reducible first | refine grdS_split ?_ ?_ | refine lkG_split ?_ ?_) <;> intro hg <;> (try simp (disch := omega) only [hg, h0, cPt,go_sem, simprocAttr]) <;> (try simp only [go_sem, simprocAttr] at hg) <;> (try (exfalso; omega))) | ((with_reducible refine fe ?_); refine ⟨_, (by simp only [Try.f44, h0, cPt,go_sem, simprocAttr]; rfl), ?_⟩; first | rfl | (try simp only [h0, cPt,go_sem, simprocAttr, seval])) | with_reducible intro (ep : Nat → Nat) | with_reducible apply_assumption -exfalso -symm only [*])
   all_goals (rw [curveOK_iff (p := p) rfl, hr']; grind)
theorem degree1_ok (p : Pt) (m : Int) : PureC Try.prog 71 [.agg (cPt p), .int .i64 m] (.int .i64 (cmpI p.m m)) := by
 refine PureC_of (fn := Try.f71) tabOK (by kernel_rfl) rfl (by kernel_rfl) (by simp [Try.f71]) (by simp [noids, noid, noidss, go_sem, cPt]) (by first | rfl | simp [noids, noid, noidss, go_sem, cPt]) ?_
 intro X hX0 hXs
 repeat' (first | (with_reducible refine sk ?_; intro K hK) | ((first | (with_reducible first | refine rg (h := ?_) | refine nx ?_) | refine pK (compare_ok _ _) ?_); try simp (disch := omega) only [cPt,go_sem, simprocAttr]) | (with_reducible refine bk ?_) | ((with_reducible refine' cE ?hv ?_ ?_); (case hv => first | rfl | (simp only [cPt,go_sem, simprocAttr]; rfl)); all_goals (intro hc; (try simp only [go_sem, simprocAttr] at hc); try (exfalso; omega))) | ((with_reducible refine fe ?_); refine ⟨_, (by simp only [Try.f71, cPt,go_sem, simprocAttr]; rfl), ?_⟩; first | rfl | (try simp only [cPt,go_sem, simprocAttr, seval])) | with_reducible intro (ep : Nat → Nat) | with_reducible apply_assumption -exfalso -symm only [*])
theorem wrapu64 {n : Int} (h : 0 ≤ n ∧ n ≤ 9223372036854775807) : IntKind.u64.wrap n = n := by
 rw [IntKind.wrap_u64]; omega
theorem shr1' {n : Int} (h : 0 ≤ n) : n.fdiv (2 ^ min 1 64) = n / 2 := by
 have : (2 : Int) ^ min 1 64 = 2 := by decide
 rw [this, Int.fdiv_eq_ediv_of_nonneg _ (by omega)]
theorem bsearch_ok (l : List Pt) (hl : l.length ≤ 1000000) (m : Int) (hs : ∀ (i j : Nat) (p q : Pt), i < j → l[i]? = some p → l[j]? = some q → p.m < q.m) :
  ∃ i : Nat, i ≤ l.length ∧ (∀ j p, j < i → l[j]? = some p → p.m < m) ∧ (∀ j p, i ≤ j → l[j]? = some p → m ≤ p.m) ∧
  PureC Try.prog 70 [.lst 2 (l.map cPt), .int .i64 m, .fn 71 []] (.tup [.int .i64 i, .bool (l[i]?.any fun p => decide (p.m = m))]) := by
 obtain ⟨i, hi, h1, h2⟩ : ∃ i : Nat, i ≤ l.length ∧ (∀ j p, j < i → l[j]? = some p → p.m < m) ∧ (∀ j p, i ≤ j → l[j]? = some p → m ≤ p.m) := by
  clear hl
  induction l with
  | nil => exact ⟨0, by simp, by simp, by simp⟩
  | cons a l ih =>
   obtain ⟨i, q1, q2, q3⟩ := ih fun i j p q hij hi hj => hs (i + 1) (j + 1) p q (by omega) (by simpa using hi) (by simpa using hj)
   by_cases ha : a.m < m
   ·refine ⟨i + 1, by simpa using q1, fun j p hj hp => ?_, fun j p hj hp => ?_⟩
    ·cases j with
     | zero => simp at hp; subst hp; exact ha
     | succ j => exact q2 j p (by omega) (by simpa using hp)
    ·cases j with
     | zero => omega
     | succ j => exact q3 j p (by omega) (by simpa using hp)
   ·refine ⟨0, by simp, fun j p hj => by omega, fun j p hj hp => ?_⟩
    cases j with
    | zero => simp at hp; subst hp; omega
    | succ j => have := hs 0 (j + 1) a p (by omega) rfl hp; omega
 refine ⟨i, hi, h1, h2, ?_⟩
 refine PureC_of (fn := Try.f70) tabOK (by kernel_rfl) rfl (by kernel_rfl) (by simp [Try.f70]) (by simp [noids, noid, noidss, go_sem]) (by first | rfl | simp [noids, noid, noidss, go_sem]) ?_
 intro X hX0 hXs
 repeat' (first | (with_reducible refine sk ?_; intro K hK) | ((with_reducible first | refine rg (h := ?_) | refine nx ?_); try simp (disch := omega) only [go_sem, simprocAttr]) | (with_reducible refine bk ?_) | ((with_reducible refine' cE ?hv ?_ ?_); (case hv => first | rfl | (simp only [go_sem, simprocAttr]; rfl)); all_goals (intro hc; (try simp only [go_sem, simprocAttr] at hc); try (exfalso; omega))) | ((with_reducible first | refine grdS_split ?_ ?_ | refine lkG_split ?_ ?_) <;> intro hg <;> (try simp (disch := omega) only [hg, go_sem, simprocAttr]) <;> (try simp only [go_sem, simprocAttr] at hg) <;> (try (exfalso; omega))) | ((with_reducible refine fe ?_); refine ⟨_, (by simp only [Try.f70, go_sem, simprocAttr]; rfl), ?_⟩; first | rfl | (try simp only [go_sem, simprocAttr, seval])) | with_reducible intro (ep : Nat → Nat) | with_reducible apply_assumption -exfalso -symm only [*])
 refine AW_block (AW_loop (fun n f H => ∃ a b : Nat, n = b - a ∧ a ≤ i ∧ i ≤ b ∧ b ≤ l.length ∧ (f 0 = .lst 2 (l.map cPt) ∧ f 1 = .int .i64 m ∧ f 2 = .fn 71 [] ∧ f 8 = .int .i64 l.length ∧ f 9 = .int .i64 a ∧ f 10 = .int .i64 b ∧ H = none0)) l.length
  ⟨0, l.length, by simp, by omega, by omega, by omega, by (and_intros <;> first | rfl | (simp only [go_sem, simprocAttr]; done) | (simp only [go_sem, simprocAttr]; rfl))⟩ ?_)
 rintro n f H ⟨a, b, rfl, ha, hb, hbl, ⟨h0, hf1, hf2, h8, h9, h10, rfl⟩⟩
 by_cases hlt : a < b
 ·obtain ⟨x, hx⟩ : ∃ x, l[(a + b) / 2]? = some x := ⟨_, List.getElem?_eq_getElem (by omega)⟩
  have e1 : IntKind.i64.wrap ((a : Int) + b) = ((a + b : Nat) : Int) := by rw [wrap64 (by omega)]; omega
  have e2 : IntKind.u64.wrap ((a + b : Nat) : Int) = ((a + b : Nat) : Int) := wrapu64 (by omega)
  have e3 : (((a + b : Nat) : Int)).fdiv (2 ^ min 1 64) = (((a + b) / 2 : Nat) : Int) := by rw [shr1' (by omega)]; omega
  have e4 : IntKind.i64.wrap (((a + b) / 2 : Nat) : Int) = (((a + b) / 2 : Nat) : Int) := wrap64 (by omega)
  have e5 : IntKind.i64.wrap ((((a + b) / 2 + 1 : Nat)) : Int) = (((a + b) / 2 + 1 : Nat) : Int) := wrap64 (by omega)
  repeat' (first | (with_reducible refine sk ?_; intro K hK) | ((first | (with_reducible first | refine rg (h := ?_) | refine nx ?_) | refine pK (degree1_ok _ _) ?_); try simp (disch := omega) only [h0, hf1, hf2, h8, h9, h10, hx, e1, e2, e3, e4, e5, cPt,go_sem, simprocAttr]) | (with_reducible refine bk ?_) | ((with_reducible refine' cE ?hv ?_ ?_); (case hv => first | rfl | (simp only [h0, hf1, hf2, h8, h9, h10, hx, e1, e2, e3, e4, e5, cPt,go_sem, simprocAttr]; rfl)); all_goals (intro hc; (try simp only [go_sem, simprocAttr] at hc); try (exfalso; omega))) | ((with_reducible first | refine grdS_split ?_ ?_ | refine lkG_split ?_ ?_) <;> intro hg <;> (try simp (disch := omega) only [hg, h0, hf1, hf2, h8, h9, h10, hx, e1, e2, e3, e4, e5, cPt,go_sem, simprocAttr]) <;> (try simp only [go_sem, simprocAttr] at hg) <;> (try (exfalso; omega))) | ((with_reducible refine fe ?_); refine ⟨_, (by simp only [Try.f70, h0, hf1, hf2, h8, h9, h10, hx, e1, e2, e3, e4, e5, cPt,go_sem, simprocAttr]; rfl), ?_⟩; first | rfl | (try simp only [h0, hf1, hf2, h8, h9, h10, hx, e1, e2, e3, e4, e5, cPt,go_sem, simprocAttr, seval])) | with_reducible intro (ep : Nat → Nat) | with_reducible apply_assumption -exfalso -symm only [*])
  ·have hlt' : x.m < m := by grind [cmpI]
   have : (a + b) / 2 < i := by
    rcases Nat.lt_or_ge ((a + b) / 2) i with h | h
    ·exact h
    ·have := h2 _ _ h hx; omega
   exact ⟨b - ((a + b) / 2 + 1), by omega, _, _, rfl, by omega, by omega, by omega, rfl, rfl⟩
  ·have hlt' : ¬ x.m < m := by grind [cmpI]
   have : i ≤ (a + b) / 2 := by
    rcases Nat.lt_or_ge ((a + b) / 2) i with h | h
    ·have := h1 _ _ h hx; omega
    ·exact h
   exact ⟨(a + b) / 2 - a, by omega, _, _, rfl, by omega, by omega, by omega, rfl, rfl⟩
 ·obtain rfl : a = i := by omega
  obtain rfl : b = a := by omega
  by_cases hbl : b < l.length
  ·obtain ⟨x, hx⟩ : ∃ x, l[b]? = some x := ⟨_, List.getElem?_eq_getElem hbl⟩
   repeat' (first | (with_reducible refine sk ?_; intro K hK) | ((first | (with_reducible first | refine rg (h := ?_) | refine nx ?_) | refine pK (degree1_ok _ _) ?_); try simp (disch := omega) only [h0, hf1, hf2, h8, h9, h10, hx, cPt,go_sem, simprocAttr]) | (with_reducible refine bk ?_) | ((with_reducible refine' cE ?hv ?_ ?_); (case hv => first | rfl | (simp only [h0, hf1, hf2, h8, h9, h10, hx, cPt,go_sem, simprocAttr]; rfl)); all_goals (intro hc; (try simp only [go_sem, simprocAttr] at hc); try (exfalso; omega))) | ((with_reducible first | refine grdS_split ?_ ?_ | refine lkG_split ?_ ?_) <;> intro hg <;> (try simp (disch := omega) only [hg, h0, hf1, hf2, h8, h9, h10, hx, cPt,go_sem, simprocAttr]) <;> (try simp only [go_sem, simprocAttr] at hg) <;> (try (exfalso; omega))) | ((with_reducible refine fe ?_); refine ⟨_, (by simp only [Try.f70, h0, hf1, hf2, h8, h9, h10, hx, cPt,go_sem, simprocAttr]; rfl), ?_⟩; first | rfl | (try simp only [h0, hf1, hf2, h8, h9, h10, hx, cPt,go_sem, simprocAttr, seval])) | with_reducible intro (ep : Nat → Nat) | with_reducible apply_assumption -exfalso -symm only [*])
   simp only [Option.any_some]; rw [Bool.eq_iff_iff]; grind [cmpI]
  ·repeat' (first | (with_reducible refine sk ?_; intro K hK) | ((first | (with_reducible first | refine rg (h := ?_) | refine nx ?_) | refine pK (degree1_ok _ _) ?_); try simp (disch := omega) only [h0, hf1, hf2, h8, h9, h10,go_sem, simprocAttr]) | (with_reducible refine bk ?_) | ((with_reducible refine' cE ?hv ?_ ?_); (case hv => first | rfl | (simp only [h0, hf1, hf2, h8, h9, h10,go_sem, simprocAttr]; rfl)); all_goals (intro hc; (try simp only [go_sem, simprocAttr] at hc); try (exfalso; omega))) | ((with_reducible first | refine grdS_split ?_ ?_ | refine lkG_split ?_ ?_) <;> intro hg <;> (try simp (disch := omega) only [hg, h0, hf1, hf2, h8, h9, h10,go_sem, simprocAttr]) <;> (try simp only [go_sem, simprocAttr] at hg) <;> (try (exfalso; omega))) | ((with_reducible refine fe ?_); refine ⟨_, (by simp only [Try.f70, h0, hf1, hf2, h8, h9, h10,go_sem, simprocAttr]; rfl), ?_⟩; first | rfl | (try simp only [h0, hf1, hf2, h8, h9, h10,go_sem, simprocAttr, seval])) | with_reducible intro (ep : Nat → Nat) | with_reducible apply_assumption -exfalso -symm only [*])
   rw [List.getElem?_eq_none (by omega)]; rfl
end Cp
namespace Cp
open Go Go.Proofs
set_option maxRecDepth 10000
theorem degree_ok (l : List Pt) (hc : CurveF l) (m : Int) (hm : 0 ≤ m) (hm2 : m ≤ lastM l) : PureC Try.prog 46 [.lst 2 (l.map cPt), .int .i64 m] (.int .i64 (degAt l m)) := by
 obtain ⟨i, hi, q1, q2, hB⟩ := bsearch_ok l (by have := hc.len; omega) m (fun i j p q h1 h2 h3 => (hc.inc i j p q h1 h2 h3).1)
 have hlen := hc.len
 have hil : i < l.length := by
  rcases Nat.lt_or_ge i l.length with h | h
  ·exact h
  ·obtain ⟨z, hz⟩ : ∃ z, l[l.length - 1]? = some z := ⟨_, List.getElem?_eq_getElem (by omega)⟩
   have h1 := q1 _ _ (show l.length - 1 < i by omega) hz
   rw [lastM_get hz] at hm2
   omega
 obtain ⟨b, hb⟩ : ∃ b, l[i]? = some b := ⟨_, List.getElem?_eq_getElem hil⟩
 obtain ⟨d1, d2⟩ := degAt_at hc q1 hb
 rw [hb] at hB
 simp only [Option.any_some] at hB
 have hbm := q2 i b (Nat.le_refl _) hb
 have hbb := hc.all _ _ hb
 refine PureC_of (fn := Try.f46) tabOK (by kernel_rfl) rfl (by kernel_rfl) (by simp [Try.f46]) (by simp [noids, noid, noidss, go_sem]) (by first | rfl | simp [noids, noid, noidss, go_sem]) ?_
 intro X hX0 hXs
 by_cases he : b.m = m
 ·repeat' (first | (with_reducible refine sk ?_; intro K hK) | ((first | (with_reducible first | refine rg (h := ?_) | refine rgS [7, 8] (h := ?_) | refine nx ?_) | refine pK (hB) ?_); try simp (disch := omega) only [hb, cPt,go_sem, simprocAttr]) | (with_reducible refine bk ?_) | ((with_reducible refine' cE ?hv ?_ ?_); (case hv => first | rfl | (simp only [hb, cPt,go_sem, simprocAttr]; rfl)); all_goals (intro hc; (try simp only [go_sem, simprocAttr] at hc); try (exfalso; omega))) | ((with_reducible refine fe ?_); refine ⟨_, (by simp only [Try.f46, hb, cPt,go_sem, simprocAttr]; rfl), ?_⟩; first | rfl | (try simp only [hb, cPt,go_sem, simprocAttr, seval])) | with_reducible intro (ep : Nat → Nat) | with_reducible apply_assumption -exfalso -symm only [*])
  exact (d1 he).symm
 ·obtain ⟨p0, hp0, hp1⟩ := hc.zero
  obtain ⟨k, rfl⟩ : ∃ k, i = k + 1 := by
   cases i with
   | zero => rw [hp0] at hb; cases hb; omega
   | succ k => exact ⟨k, rfl⟩
  obtain ⟨a, ha⟩ : ∃ a, l[k]? = some a := ⟨_, List.getElem?_eq_getElem (by omega)⟩
  have hab := hc.inc k (k + 1) a b (by omega) ha hb
  have haa := hc.all _ _ ha
  have ham := q1 k a (by omega) ha
  have hdeg := d2 k a rfl ha (by omega)
  have hne : ¬ b.m - a.m = 0 := by omega
  obtain ⟨b1, b2⟩ := interp_bounds haa hbb hab.2 (by omega) (show m < b.m by omega)
  repeat' (first | (with_reducible refine sk ?_; intro K hK) | ((first | (with_reducible first | refine rg (h := ?_) | refine rgS [7, 8] (h := ?_) | refine nx ?_) | refine pK (hB) ?_); try simp (disch := omega) only [hb, ha, cPt, hne,go_sem, simprocAttr]) | (with_reducible refine bk ?_) | ((with_reducible refine' cE ?hv ?_ ?_); (case hv => first | rfl | (simp only [hb, ha, cPt, hne,go_sem, simprocAttr]; rfl)); all_goals (intro hc; (try simp only [go_sem, simprocAttr] at hc); try (exfalso; omega))) | ((with_reducible refine fe ?_); refine ⟨_, (by simp only [Try.f46, hb, ha, cPt, hne,go_sem, simprocAttr]; rfl), ?_⟩; first | rfl | (try simp only [hb, ha, cPt, hne,go_sem, simprocAttr, seval])) | with_reducible intro (ep : Nat → Nat) | with_reducible apply_assumption -exfalso -symm only [*])
  rw [hdeg]; rfl
theorem at_ok (l : List Pt) (hl : l.length ≤ 4611686018427387904) (m : Int) : PureC Try.prog 16 [.lst 2 (l.map cPt), .int .i64 m]
  (if curveOK l then (if 0 ≤ m ∧ m ≤ lastM l then .tup [.int .i64 (degAt l m), .int .i64 0] else .tup [.int .i64 0, .int .i64 2]) else .tup [.int .i64 0, .int .i64 10]) := by
 by_cases hc : curveOK l = true
 ·have hF := curve_facts hc
  obtain ⟨z, hz⟩ : ∃ z, l[l.length - 1]? = some z := ⟨_, List.getElem?_eq_getElem (by have := hF.len; omega)⟩
  have hzm := lastM_get hz
  have e1 : ((l.length : Int) - 1) = ((l.length - 1 : Nat) : Int) := by have := hF.len; omega
  rw [if_pos hc, hzm]
  by_cases hm : 0 ≤ m ∧ m ≤ z.m
  ·rw [if_pos hm]
   refine PureC_of (fn := Try.f16) tabOK (by kernel_rfl) rfl (by kernel_rfl) (by simp [Try.f16]) (by simp [noids, noid, noidss, go_sem]) (by first | rfl | simp [noids, noid, noidss, go_sem]) ?_
   intro X hX0 hXs
   repeat' (first | (with_reducible refine sk ?_; intro K hK) | ((first | (with_reducible first | refine rg (h := ?_) | refine nx ?_) | refine pK (curved_ok l hl) ?_ | refine pK (in_1 _ _ _) ?_ | refine pK (degree_ok l hF m hm.1 (by rw [hzm]; exact hm.2)) ?_); try simp (disch := omega) only [hc, hz, e1, cPt,go_sem, simprocAttr]) | (with_reducible refine bk ?_) | ((with_reducible refine' cE ?hv ?_ ?_); (case hv => first | rfl | (simp only [hc, hz, e1, cPt,go_sem, simprocAttr]; rfl)); all_goals (intro hc; (try simp only [go_sem, simprocAttr] at hc); try (exfalso; omega))) | ((with_reducible refine fe ?_); refine ⟨_, (by simp only [Try.f16, hc, hz, e1, cPt,go_sem, simprocAttr]; rfl), ?_⟩; first | rfl | (try simp only [hc, hz, e1, cPt,go_sem, simprocAttr, seval])) | with_reducible intro (ep : Nat → Nat) | with_reducible apply_assumption -exfalso -symm only [*])
  ·rw [if_neg hm]
   refine PureC_of (fn := Try.f16) tabOK (by kernel_rfl) rfl (by kernel_rfl) (by simp [Try.f16]) (by simp [noids, noid, noidss, go_sem]) (by first | rfl | simp [noids, noid, noidss, go_sem]) ?_
   intro X hX0 hXs
   repeat' (first | (with_reducible refine sk ?_; intro K hK) | ((first | (with_reducible first | refine rg (h := ?_) | refine nx ?_) | refine pK (curved_ok l hl) ?_ | refine pK (in_1 _ _ _) ?_); try simp (disch := omega) only [hc, hz, e1, cPt,go_sem, simprocAttr]) | (with_reducible refine bk ?_) | ((with_reducible refine' cE ?hv ?_ ?_); (case hv => first | rfl | (simp only [hc, hz, e1, cPt,go_sem, simprocAttr]; rfl)); all_goals (intro hc; (try simp only [go_sem, simprocAttr] at hc); try (exfalso; omega))) | ((with_reducible refine fe ?_); refine ⟨_, (by simp only [Try.f16, hc, hz, e1, cPt,go_sem, simprocAttr]; rfl), ?_⟩; first | rfl | (try simp only [hc, hz, e1, cPt,go_sem, simprocAttr, seval])) | with_reducible intro (ep : Nat → Nat) | with_reducible apply_assumption -exfalso -symm only [*])
 ·simp only [Bool.not_eq_true] at hc
  simp only [hc, Bool.false_eq_true, if_false]
  refine PureC_of (fn := Try.f16) tabOK (by kernel_rfl) rfl (by kernel_rfl) (by simp [Try.f16]) (by simp [noids, noid, noidss, go_sem]) (by first | rfl | simp [noids, noid, noidss, go_sem]) ?_
  intro X hX0 hXs
  repeat' (first | (with_reducible refine sk ?_; intro K hK) | ((first | (with_reducible first | refine rg (h := ?_) | refine nx ?_) | refine pK (curved_ok l hl) ?_); try simp (disch := omega) only [hc,go_sem, simprocAttr]) | (with_reducible refine bk ?_) | ((with_reducible refine' cE ?hv ?_ ?_); (case hv => first | rfl | (simp only [hc,go_sem, simprocAttr]; rfl)); all_goals (intro hc; (try simp only [go_sem, simprocAttr] at hc); try (exfalso; omega))) | ((with_reducible refine fe ?_); refine ⟨_, (by simp only [Try.f16, hc,go_sem, simprocAttr]; rfl), ?_⟩; first | rfl | (try simp only [hc,go_sem, simprocAttr, seval])) | with_reducible intro (ep : Nat → Nat) | with_reducible apply_assumption -exfalso -symm only [*])
end Cp
namespace Cp
open Go
def cplOK (last : Int) (c : Cpl) : Bool := decide ((last + 1 ≤ c.id ∧ c.id ≤ 9999) ∧ (-50 ≤ c.err.lo ∧ c.err.lo ≤ c.err.hi ∧ c.err.hi ≤ 50) ∧ (0 ≤ c.lag.lo ∧ c.lag.lo ≤ c.lag.hi ∧ c.lag.hi ≤ 3) ∧ 0 ≤ c.brk ∧ c.brk ≤ 600)
def cplsFrom (last : Int) : List Cpl → Bool
 | [] => true
 | c :: l => cplOK last c && cplsFrom c.id l
def degsOK (l : List Int) : Bool := l.all fun d => decide (0 ≤ d ∧ d ≤ 2000)
def rowOK (n : Nat) (r : RowT) : Bool := decide (r.deg.length = n ∧ -100 ≤ r.press ∧ r.press ≤ 100) && degsOK r.deg
def headOK (r : RunT) : Bool := decide ((0 ≤ r.id ∧ r.id ≤ 9999) ∧ (-20 ≤ r.gauge.lo ∧ r.gauge.lo ≤ r.gauge.hi ∧ r.gauge.hi ≤ 20) ∧ (1 ≤ r.cpls.length ∧ r.cpls.length ≤ 8) ∧ (1 ≤ r.rows.length ∧ r.rows.length ≤ 60 ∧ r.rows.length ≤ lastM r.curve))
def runOK (r : RunT) : Bool := curveOK r.curve && headOK r && cplsFrom (-1) r.cpls && r.rows.all (rowOK r.cpls.length)
theorem runOK_eq {r : RunT} (h1 : curveOK r.curve = true) (h2 : headOK r = true) : runOK r = (cplsFrom (-1) r.cpls && r.rows.all (rowOK r.cpls.length)) := by simp [runOK, h1, h2]
theorem runOK_curve {r : RunT} (h : curveOK r.curve = false) : runOK r = false := by simp [runOK, h]
theorem runOK_head {r : RunT} (h : headOK r = false) : runOK r = false := by simp [runOK, h]
def stepOK (last : Int) (s : StepT) : Bool := decide ((last + 1 ≤ s.frm ∧ s.frm ≤ 600) ∧ 0 ≤ s.part ∧ s.part ≤ 1000)
def stepsFrom (last : Int) : List StepT → Bool
 | [] => true
 | s :: l => stepOK last s && stepsFrom s.frm l
def limsOK (u : RulesT) : Bool := decide (u.steps.length ≤ 5 ∧ (0 ≤ u.single ∧ u.single ≤ 2000) ∧ (1 ≤ u.sfrom ∧ u.sfrom ≤ 600) ∧ (-100 ≤ u.press.lo ∧ u.press.lo ≤ u.press.hi ∧ u.press.hi ≤ 100) ∧ 1 ≤ u.pfrom ∧ u.pfrom ≤ 600)
def rulesOK (u : RulesT) : Bool := limsOK u && stepsFrom 0 u.steps
structure RunB (r : RunT) : Prop where
 curve : r.curve.length ≤ 4611686018427387904
 cpls : r.cpls.length ≤ 4611686018427387904
 rows : r.rows.length ≤ 4611686018427387904
 degs : ∀ x ∈ r.rows, x.deg.length ≤ 4611686018427387904
structure RulesB (u : RulesT) : Prop where
 steps : u.steps.length ≤ 4611686018427387904
end Cp
namespace Cp
open Go Go.Proofs
set_option maxRecDepth 10000
theorem ran_ok (r : RunT) (hb : RunB r) : PureC Try.prog 49 [encRun r] (.bool (runOK r)) := by
  refine PureC_of (fn := Try.f49) tabOK (by kernel_rfl) rfl (by kernel_rfl) (by simp [Try.f49]) (by simp [noids, noid, noidss, go_sem, encRun, cRun]) (by first | rfl | simp [noids, noid, noidss, go_sem, encRun, cRun]) ?_
  intro X hX0 hXs
  by_cases hcv : curveOK r.curve = true
  · have hF := curve_facts hcv
    have hlen := hF.len
    obtain ⟨z, hz⟩ : ∃ z, r.curve[r.curve.length - 1]? = some z := ⟨_, List.getElem?_eq_getElem (by have := hF.len; omega)⟩
    have hzm := lastM_get hz
    have e1 : ((r.curve.length : Int) - 1) = ((r.curve.length - 1 : Nat) : Int) := by have := hF.len; omega
    repeat' (first | (with_reducible refine sk ?_; intro K hK) | ((first | (with_reducible first | refine rg (h := ?_) | refine rgS [5, 8] (h := ?_) | refine nx ?_) | refine pK (in_1 _ _ _) ?_ | refine pK (curved_ok r.curve hb.curve) ?_ | refine pK (ordered_ok r.gauge _ _) ?_); try simp (disch := omega) only [hcv, hz, e1, encRun, cRun, cPt,go_sem, simprocAttr]) | (with_reducible refine bk ?_) | ((with_reducible refine' cE ?hv ?_ ?_); (case hv => first | rfl | (simp only [hcv, hz, e1, encRun, cRun, cPt,go_sem, simprocAttr]; rfl)); all_goals (intro hc; (try simp only [go_sem, simprocAttr] at hc); try (exfalso; omega))) | ((with_reducible first | refine grdS_split ?_ ?_ | refine lkG_split ?_ ?_) <;> intro hg <;> (try simp (disch := omega) only [hg, hcv, hz, e1, encRun, cRun, cPt,go_sem, simprocAttr]) <;> (try simp only [go_sem, simprocAttr] at hg) <;> (try (exfalso; omega))) | ((with_reducible refine fe ?_); refine ⟨_, (by simp only [Try.f49, hcv, hz, e1, encRun, cRun, cPt,go_sem, simprocAttr]; rfl), ?_⟩; first | rfl | (try simp only [hcv, hz, e1, encRun, cRun, cPt,go_sem, simprocAttr, seval])) | with_reducible intro (ep : Nat → Nat) | with_reducible apply_assumption -exfalso -symm only [*])
    iterate 4 (rw [runOK_head]; simp only [headOK, decide_eq_false_iff_not]; omega)
    have hh : headOK r = true := by simp only [headOK, decide_eq_true_eq]; omega
    have hR := runOK_eq hcv hh
    refine AW_range tabOK r.cpls.length (fun k f H => f 1 = .pim (cRun r) ∧ f 53 = .lst 6 (r.cpls.map cCpl) ∧ ∃ last, f 3 = .int .i64 last ∧ -1 ≤ last ∧ last ≤ 9999 ∧ cplsFrom (-1) r.cpls = cplsFrom last (r.cpls.drop k)) hb.cpls (by rw [hXs]; decide) (by decide) (by simp only [go_sem, simprocAttr]) (by simp only [go_sem, simprocAttr])
      ⟨by simp only [go_sem, simprocAttr, cRun], by simp only [go_sem, simprocAttr], -1, by simp only [go_sem, simprocAttr], by omega, by omega, by simp⟩ ?_ ?_
    · rintro k f H hk h55 h54 ⟨h1, h53, last, h3, hl1, hl2, hr⟩
      obtain ⟨x, hx⟩ : ∃ x, r.cpls[k]? = some x := ⟨_, List.getElem?_eq_getElem hk⟩
      rw [drop_cons hx] at hr
      simp only [cplsFrom] at hr
      refine AW_keep [] ?_
      repeat' (first | (with_reducible refine sk ?_; intro K hK) | ((first | (with_reducible first | refine rg (h := ?_) | refine rgS [5, 8] (h := ?_) | refine nx ?_) | refine pK (in_1 _ _ _) ?_ | refine pK (ordered_ok x.err _ _) ?_ | refine pK (ordered_ok x.lag _ _) ?_); try simp (disch := omega) only [h1, h3, h53, h54, h55, hx, cRun, cCpl,go_sem, simprocAttr]) | (with_reducible refine bk ?_) | ((with_reducible refine' cE ?hv ?_ ?_); (case hv => first | rfl | (simp only [h1, h3, h53, h54, h55, hx, cRun, cCpl,go_sem, simprocAttr]; rfl)); all_goals (intro hc; (try simp only [go_sem, simprocAttr] at hc); try (exfalso; omega))) | ((with_reducible first | refine grdS_split ?_ ?_ | refine lkG_split ?_ ?_) <;> intro hg <;> (try simp (disch := omega) only [hg, h1, h3, h53, h54, h55, hx, cRun, cCpl,go_sem, simprocAttr]) <;> (try simp only [go_sem, simprocAttr] at hg) <;> (try (exfalso; omega))) | ((with_reducible refine fe ?_); refine ⟨_, (by simp only [Try.f49, h1, h3, h53, h54, h55, hx, cRun, cCpl,go_sem, simprocAttr]; rfl), ?_⟩; first | rfl | (try simp only [h1, h3, h53, h54, h55, hx, cRun, cCpl,go_sem, simprocAttr, seval])) | with_reducible intro (ep : Nat → Nat) | with_reducible apply_assumption -exfalso -symm only [*])
      iterate 4 (have : cplOK last x = false := by (simp only [cplOK, decide_eq_false_iff_not]; omega)
                 rw [hR, hr, this]; simp)
      have : cplOK last x = true := by simp only [cplOK, decide_eq_true_eq]; omega
      refine ⟨x.id, rfl, by omega, by omega, ?_⟩
      rw [hr, this]; simp
    · rintro f H h55 h54 ⟨h1, h53, last, h3, hl1, hl2, hr⟩
      have hcp : cplsFrom (-1) r.cpls = true := by rw [hr, drop_none (Nat.le_refl _)]; rfl
      simp only [hcp, Bool.true_and] at hR
      repeat' (first | (with_reducible refine sk ?_; intro K hK) | ((with_reducible first | refine rg (h := ?_) | refine rgS [5, 8] (h := ?_) | refine nx ?_); try simp (disch := omega) only [h1, cRun,go_sem, simprocAttr]) | (with_reducible refine bk ?_) | ((with_reducible refine' cE ?hv ?_ ?_); (case hv => first | rfl | (simp only [h1, cRun,go_sem, simprocAttr]; rfl)); all_goals (intro hc; (try simp only [go_sem, simprocAttr] at hc); try (exfalso; omega))) | ((with_reducible first | refine grdS_split ?_ ?_ | refine lkG_split ?_ ?_) <;> intro hg <;> (try simp (disch := omega) only [hg, h1, cRun,go_sem, simprocAttr]) <;> (try simp only [go_sem, simprocAttr] at hg) <;> (try (exfalso; omega))) | ((with_reducible refine fe ?_); refine ⟨_, (by simp only [Try.f49, h1, cRun,go_sem, simprocAttr]; rfl), ?_⟩; first | rfl | (try simp only [h1, cRun,go_sem, simprocAttr, seval])) | with_reducible intro (ep : Nat → Nat) | with_reducible apply_assumption -exfalso -symm only [*])
      refine AW_range tabOK r.rows.length (fun k f H => f 1 = .pim (cRun r) ∧ f 89 = .lst 2 (r.rows.map cRow) ∧ f 6 = .bool true ∧ r.rows.all (rowOK r.cpls.length) = (r.rows.drop k).all (rowOK r.cpls.length)) hb.rows (by rw [hXs]; decide) (by decide) (by simp only [go_sem, simprocAttr]) (by simp only [go_sem, simprocAttr])
        ⟨by simp only [go_sem, simprocAttr, h1], by simp only [go_sem, simprocAttr], by simp only [go_sem, simprocAttr], by simp⟩ ?_ ?_
      · rintro k f H hk h91 h90 ⟨h1, h89, h6, hr⟩
        obtain ⟨x, hx⟩ : ∃ x, r.rows[k]? = some x := ⟨_, List.getElem?_eq_getElem hk⟩
        rw [drop_cons hx] at hr
        simp only [List.all_cons] at hr
        refine AW_keep [] ?_
        repeat' (first | (with_reducible refine sk ?_; intro K hK) | ((first | (with_reducible first | refine rg (h := ?_) | refine rgS [5, 8] (h := ?_) | refine nx ?_) | refine pK (in_1 _ _ _) ?_ | refine pK (in_ok x.deg (hb.degs x (List.mem_of_getElem? hx)) _ _) ?_); try simp (disch := omega) only [h1, h89, h6, h90, h91, hx, cRun, cRow,go_sem, simprocAttr]) | (with_reducible refine bk ?_) | ((with_reducible refine' cE ?hv ?_ ?_); (case hv => first | rfl | (simp only [h1, h89, h6, h90, h91, hx, cRun, cRow,go_sem, simprocAttr]; rfl)); all_goals (intro hc; (try simp only [go_sem, simprocAttr] at hc); try (exfalso; omega))) | ((with_reducible first | refine grdS_split ?_ ?_ | refine lkG_split ?_ ?_) <;> intro hg <;> (try simp (disch := omega) only [hg, h1, h89, h6, h90, h91, hx, cRun, cRow,go_sem, simprocAttr]) <;> (try simp only [go_sem, simprocAttr] at hg) <;> (try (exfalso; omega))) | ((with_reducible refine fe ?_); refine ⟨_, (by simp only [Try.f49, h1, h89, h6, h90, h91, hx, cRun, cRow,go_sem, simprocAttr]; rfl), ?_⟩; first | rfl | (try simp only [h1, h89, h6, h90, h91, hx, cRun, cRow,go_sem, simprocAttr, seval])) | with_reducible intro (ep : Nat → Nat) | with_reducible apply_assumption -exfalso -symm only [*])
        · have : rowOK r.cpls.length x = false := by simp [rowOK]; intro h; omega
          rw [hR, hr, this]; simp
        · have : rowOK r.cpls.length x = false := by simp [rowOK]; intro h; omega
          rw [hR, hr, this]; simp
        · have : rowOK r.cpls.length x = false := by simp only [rowOK, degsOK, hc, Bool.and_false]
          rw [hR, hr, this]; simp
        · have : rowOK r.cpls.length x = true := by simp only [rowOK, degsOK, hc, Bool.and_true, decide_eq_true_eq]; omega
          rw [hr, this]; simp
      · rintro f H h91 h90 ⟨h1, h89, h6, hr⟩
        repeat' (first | (with_reducible refine sk ?_; intro K hK) | ((with_reducible first | refine rg (h := ?_) | refine rgS [5, 8] (h := ?_) | refine nx ?_); try simp (disch := omega) only [h6,go_sem, simprocAttr]) | (with_reducible refine bk ?_) | ((with_reducible refine' cE ?hv ?_ ?_); (case hv => first | rfl | (simp only [h6,go_sem, simprocAttr]; rfl)); all_goals (intro hc; (try simp only [go_sem, simprocAttr] at hc); try (exfalso; omega))) | ((with_reducible first | refine grdS_split ?_ ?_ | refine lkG_split ?_ ?_) <;> intro hg <;> (try simp (disch := omega) only [hg, h6,go_sem, simprocAttr]) <;> (try simp only [go_sem, simprocAttr] at hg) <;> (try (exfalso; omega))) | ((with_reducible refine fe ?_); refine ⟨_, (by simp only [Try.f49, h6,go_sem, simprocAttr]; rfl), ?_⟩; first | rfl | (try simp only [h6,go_sem, simprocAttr, seval])) | with_reducible intro (ep : Nat → Nat) | with_reducible apply_assumption -exfalso -symm only [*])
        rw [hR, hr, drop_none (Nat.le_refl _)]; rfl
  · simp only [Bool.not_eq_true] at hcv
    repeat' (first | (with_reducible refine sk ?_; intro K hK) | ((first | (with_reducible first | refine rg (h := ?_) | refine rgS [5, 8] (h := ?_) | refine nx ?_) | refine pK (in_1 _ _ _) ?_ | refine pK (curved_ok r.curve hb.curve) ?_ | refine pK (ordered_ok r.gauge _ _) ?_); try simp (disch := omega) only [hcv, encRun, cRun,go_sem, simprocAttr]) | (with_reducible refine bk ?_) | ((with_reducible refine' cE ?hv ?_ ?_); (case hv => first | rfl | (simp only [hcv, encRun, cRun,go_sem, simprocAttr]; rfl)); all_goals (intro hc; (try simp only [go_sem, simprocAttr] at hc); try (exfalso; omega))) | ((with_reducible first | refine grdS_split ?_ ?_ | refine lkG_split ?_ ?_) <;> intro hg <;> (try simp (disch := omega) only [hg, hcv, encRun, cRun,go_sem, simprocAttr]) <;> (try simp only [go_sem, simprocAttr] at hg) <;> (try (exfalso; omega))) | ((with_reducible refine fe ?_); refine ⟨_, (by simp only [Try.f49, hcv, encRun, cRun,go_sem, simprocAttr]; rfl), ?_⟩; first | rfl | (try simp only [hcv, encRun, cRun,go_sem, simprocAttr, seval])) | with_reducible intro (ep : Nat → Nat) | with_reducible apply_assumption -exfalso -symm only [*])
    all_goals rw [runOK_curve hcv]
end Cp
namespace Cp
open Go Go.Proofs
set_option maxRecDepth 10000
theorem rrun_ok (r : RunT) (hb : RunB r) : PureC Try.prog 51 [encRun r] (.bool (runOK r)) := by
 have hb1 := hb.cpls
 have hb2 := hb.rows
 refine PureC_of (fn := Try.f51) tabOK (by kernel_rfl) rfl (by kernel_rfl) (by simp [Try.f51]) (by simp [noids, noid, noidss, go_sem, encRun, cRun]) (by first | rfl | simp [noids, noid, noidss, go_sem, encRun, cRun]) ?_
 intro X hX0 hXs
 by_cases hcv : curveOK r.curve = true
 ·have hF := curve_facts hcv
  have hlen := hF.len
  obtain ⟨z, hz⟩ : ∃ z, r.curve[r.curve.length - 1]? = some z := ⟨_, List.getElem?_eq_getElem (by omega)⟩
  have hzm := lastM_get hz
  have e1 : ((r.curve.length : Int) - 1) = ((r.curve.length - 1 : Nat) : Int) := by omega
  repeat' (first | (with_reducible refine sk ?_; intro K hK) | ((first | (with_reducible first | refine rg (h := ?_) | refine rgS [4] (h := ?_) | refine nx ?_) | refine pK (rwithin_ok _ _ _) ?_ | refine pK (rcurve_ok r.curve hb.curve) ?_ | refine pK (rspanned_ok r.gauge _ _) ?_); try simp (disch := omega) only [hcv, hz, e1, encRun, cRun, cPt,go_sem, simprocAttr]) | (with_reducible refine bk ?_) | ((with_reducible refine' cE ?hv ?_ ?_); (case hv => first | rfl | (simp only [hcv, hz, e1, encRun, cRun, cPt,go_sem, simprocAttr]; rfl)); all_goals (intro hc; (try simp only [go_sem, simprocAttr] at hc); try (exfalso; omega))) | ((with_reducible first | refine grdS_split ?_ ?_ | refine lkG_split ?_ ?_) <;> intro hg <;> (try simp (disch := omega) only [hg, hcv, hz, e1, encRun, cRun, cPt,go_sem, simprocAttr]) <;> (try simp only [go_sem, simprocAttr] at hg) <;> (try (exfalso; omega))) | ((with_reducible refine fe ?_); refine ⟨_, (by simp only [Try.f51, hcv, hz, e1, encRun, cRun, cPt,go_sem, simprocAttr]; rfl), ?_⟩; first | rfl | (try simp only [hcv, hz, e1, encRun, cRun, cPt,go_sem, simprocAttr, seval])) | with_reducible intro (ep : Nat → Nat) | with_reducible apply_assumption -exfalso -symm only [*])
  iterate 5 (rw [runOK_head]; simp only [headOK, decide_eq_false_iff_not]; omega)
  have hh : headOK r = true := by simp only [headOK, decide_eq_true_eq]; omega
  have hR := runOK_eq hcv hh
  refine AW_block (AW_loop (fun n f H => ∃ k : Nat, n = r.cpls.length - k ∧ k ≤ r.cpls.length ∧ (f 1 = .pim (cRun r) ∧ f 3 = .int .i64 k) ∧ ∃ last, (k = 0 → last = -1) ∧ (∀ j, k = j + 1 → ∃ a, r.cpls[j]? = some a ∧ a.id = last) ∧ -1 ≤ last ∧ last ≤ 9999 ∧ cplsFrom (-1) r.cpls = cplsFrom last (r.cpls.drop k)) r.cpls.length
   ⟨0, by simp, Nat.zero_le _, by (and_intros <;> first | rfl | (simp only [cRun, go_sem, simprocAttr]; done) | (simp only [cRun, go_sem, simprocAttr]; rfl)), -1, by simp, by simp, by simp, by simp, by simp⟩ ?_)
  rintro n f H ⟨k, rfl, hk, ⟨h1, h3⟩, last, hl0, hl1, hl2, hl3, hr⟩
  by_cases hlt : k < r.cpls.length
  ·obtain ⟨x, hx⟩ : ∃ x, r.cpls[k]? = some x := ⟨_, List.getElem?_eq_getElem hlt⟩
   rw [drop_cons hx] at hr
   simp only [cplsFrom] at hr
   refine AW_keep [] ?_
   have bad : cplOK last x = false → false = runOK r := fun h => by rw [hR, hr, h]; simp
   have good : cplOK last x = true → ∃ m, m < r.cpls.length - k ∧ ∃ k', m = r.cpls.length - k' ∧ k' ≤ r.cpls.length ∧ Val.int .i64 ((k + 1 : Nat) : Int) = .int .i64 (k' : Int) ∧ ∃ last, (k' = 0 → last = -1) ∧ (∀ j, k' = j + 1 → ∃ a, r.cpls[j]? = some a ∧ a.id = last) ∧ -1 ≤ last ∧ last ≤ 9999 ∧ cplsFrom (-1) r.cpls = cplsFrom last (r.cpls.drop k') := fun h => by
    refine ⟨r.cpls.length - (k + 1), by omega, k + 1, rfl, by omega, rfl, x.id, by omega, (fun j hj => ⟨x, (by rw [show j = k by omega]; exact hx), rfl⟩), ?_⟩
    have h' := h
    simp only [cplOK, decide_eq_true_eq] at h
    refine ⟨by omega, by omega, ?_⟩
    rw [hr, h']; simp
   simp only [cplOK, decide_eq_false_iff_not, decide_eq_true_eq] at bad good
   rcases k with _ | j
   ·obtain rfl := hl0 rfl
    repeat' (first | (with_reducible refine sk ?_; intro K hK) | ((first | (with_reducible first | refine rg (h := ?_) | refine rgS [4] (h := ?_) | refine nx ?_) | refine pK (rwithin_ok _ _ _) ?_ | refine pK (rspanned_ok x.err _ _) ?_ | refine pK (rspanned_ok x.lag _ _) ?_); try simp (disch := omega) only [h1, h3, hx, cRun, cCpl,go_sem, simprocAttr]) | (with_reducible refine bk ?_) | ((with_reducible refine' cE ?hv ?_ ?_); (case hv => first | rfl | (simp only [h1, h3, hx, cRun, cCpl,go_sem, simprocAttr]; rfl)); all_goals (intro hc; (try simp only [go_sem, simprocAttr] at hc); try (exfalso; omega))) | ((with_reducible first | refine grdS_split ?_ ?_ | refine lkG_split ?_ ?_) <;> intro hg <;> (try simp (disch := omega) only [hg, h1, h3, hx, cRun, cCpl,go_sem, simprocAttr]) <;> (try simp only [go_sem, simprocAttr] at hg) <;> (try (exfalso; omega))) | ((with_reducible refine fe ?_); refine ⟨_, (by simp only [Try.f51, h1, h3, hx, cRun, cCpl,go_sem, simprocAttr]; rfl), ?_⟩; first | rfl | (try simp only [h1, h3, hx, cRun, cCpl,go_sem, simprocAttr, seval])) | with_reducible intro (ep : Nat → Nat) | with_reducible apply_assumption -exfalso -symm only [*])
    all_goals omega
   ·obtain ⟨a, haj, hal⟩ := hl1 j rfl
    repeat' (first | (with_reducible refine sk ?_; intro K hK) | ((first | (with_reducible first | refine rg (h := ?_) | refine rgS [4] (h := ?_) | refine nx ?_) | refine pK (rwithin_ok _ _ _) ?_ | refine pK (rspanned_ok x.err _ _) ?_ | refine pK (rspanned_ok x.lag _ _) ?_); try simp (disch := omega) only [h1, h3, hx, haj, cRun, cCpl,go_sem, simprocAttr]) | (with_reducible refine bk ?_) | ((with_reducible refine' cE ?hv ?_ ?_); (case hv => first | rfl | (simp only [h1, h3, hx, haj, cRun, cCpl,go_sem, simprocAttr]; rfl)); all_goals (intro hc; (try simp only [go_sem, simprocAttr] at hc); try (exfalso; omega))) | ((with_reducible first | refine grdS_split ?_ ?_ | refine lkG_split ?_ ?_) <;> intro hg <;> (try simp (disch := omega) only [hg, h1, h3, hx, haj, cRun, cCpl,go_sem, simprocAttr]) <;> (try simp only [go_sem, simprocAttr] at hg) <;> (try (exfalso; omega))) | ((with_reducible refine fe ?_); refine ⟨_, (by simp only [Try.f51, h1, h3, hx, haj, cRun, cCpl,go_sem, simprocAttr]; rfl), ?_⟩; first | rfl | (try simp only [h1, h3, hx, haj, cRun, cCpl,go_sem, simprocAttr, seval])) | with_reducible intro (ep : Nat → Nat) | with_reducible apply_assumption -exfalso -symm only [*])
    all_goals omega
  ·have hcp : cplsFrom (-1) r.cpls = true := by rw [hr, drop_none (by omega)]; rfl
   simp only [hcp, Bool.true_and] at hR
   repeat' (first | (with_reducible refine sk ?_; intro K hK) | ((with_reducible first | refine rg (h := ?_) | refine rgS [4] (h := ?_) | refine nx ?_); try simp (disch := omega) only [h1, h3, cRun,go_sem, simprocAttr]) | (with_reducible refine bk ?_) | ((with_reducible refine' cE ?hv ?_ ?_); (case hv => first | rfl | (simp only [h1, h3, cRun,go_sem, simprocAttr]; rfl)); all_goals (intro hc; (try simp only [go_sem, simprocAttr] at hc); try (exfalso; omega))) | ((with_reducible first | refine grdS_split ?_ ?_ | refine lkG_split ?_ ?_) <;> intro hg <;> (try simp (disch := omega) only [hg, h1, h3, cRun,go_sem, simprocAttr]) <;> (try simp only [go_sem, simprocAttr] at hg) <;> (try (exfalso; omega))) | ((with_reducible refine fe ?_); refine ⟨_, (by simp only [Try.f51, h1, h3, cRun,go_sem, simprocAttr]; rfl), ?_⟩; first | rfl | (try simp only [h1, h3, cRun,go_sem, simprocAttr, seval])) | with_reducible intro (ep : Nat → Nat) | with_reducible apply_assumption -exfalso -symm only [*])
   refine AW_block (AW_loop (fun n f H => ∃ k : Nat, n = r.rows.length - k ∧ k ≤ r.rows.length ∧ (f 1 = .pim (cRun r) ∧ f 5 = .int .i64 k) ∧ r.rows.all (rowOK r.cpls.length) = (r.rows.drop k).all (rowOK r.cpls.length)) r.rows.length
    ⟨0, by simp, Nat.zero_le _, by (and_intros <;> first | rfl | (simp only [cRun, h1, go_sem, simprocAttr]; done) | (simp only [cRun, h1, go_sem, simprocAttr]; rfl)), by simp⟩ ?_)
   rintro n f H ⟨k, rfl, hk, ⟨h1, h5⟩, hr⟩
   by_cases hlt : k < r.rows.length
   ·obtain ⟨x, hx⟩ : ∃ x, r.rows[k]? = some x := ⟨_, List.getElem?_eq_getElem hlt⟩
    rw [drop_cons hx] at hr
    simp only [List.all_cons] at hr
    have hxd := hb.degs x (List.mem_of_getElem? hx)
    repeat' (first | (with_reducible refine sk ?_; intro K hK) | ((first | (with_reducible first | refine rg (h := ?_) | refine rgS [4] (h := ?_) | refine nx ?_) | refine pK (rwithin_ok _ _ _) ?_); try simp (disch := omega) only [h1, h5, hx, cRun, cRow,go_sem, simprocAttr]) | (with_reducible refine bk ?_) | ((with_reducible refine' cE ?hv ?_ ?_); (case hv => first | rfl | (simp only [h1, h5, hx, cRun, cRow,go_sem, simprocAttr]; rfl)); all_goals (intro hc; (try simp only [go_sem, simprocAttr] at hc); try (exfalso; omega))) | ((with_reducible first | refine grdS_split ?_ ?_ | refine lkG_split ?_ ?_) <;> intro hg <;> (try simp (disch := omega) only [hg, h1, h5, hx, cRun, cRow,go_sem, simprocAttr]) <;> (try simp only [go_sem, simprocAttr] at hg) <;> (try (exfalso; omega))) | ((with_reducible refine fe ?_); refine ⟨_, (by simp only [Try.f51, h1, h5, hx, cRun, cRow,go_sem, simprocAttr]; rfl), ?_⟩; first | rfl | (try simp only [h1, h5, hx, cRun, cRow,go_sem, simprocAttr, seval])) | with_reducible intro (ep : Nat → Nat) | with_reducible apply_assumption -exfalso -symm only [*])
    ·have : rowOK r.cpls.length x = false := by simp [rowOK]; intro h; omega
     rw [hR, hr, this]; simp
    ·have : rowOK r.cpls.length x = false := by simp [rowOK]; intro h; omega
     rw [hR, hr, this]; simp
    have hdl : x.deg.length = r.cpls.length := by omega
    refine AW_block (AW_loop (fun n f H => ∃ i : Nat, n = x.deg.length - i ∧ i ≤ x.deg.length ∧ (f 1 = .pim (cRun r) ∧ f 5 = .int .i64 k ∧ f 6 = .int .i64 i) ∧ degsOK x.deg = degsOK (x.deg.drop i)) x.deg.length
     ⟨0, by simp, Nat.zero_le _, by (and_intros <;> first | rfl | (simp only [cRun, h1, h5, go_sem, simprocAttr]; done) | (simp only [cRun, h1, h5, go_sem, simprocAttr]; rfl)), by simp⟩ ?_)
    rintro n f H ⟨i, rfl, hi, ⟨h1, h5, h6⟩, hd⟩
    by_cases hlt2 : i < x.deg.length
    ·obtain ⟨y, hy⟩ : ∃ y, x.deg[i]? = some y := ⟨_, List.getElem?_eq_getElem hlt2⟩
     rw [drop_cons hy] at hd
     have hd' : degsOK x.deg = (decide (0 ≤ y ∧ y ≤ 2000) && degsOK (x.deg.drop (i + 1))) := hd
     repeat' (first | (with_reducible refine sk ?_; intro K hK) | ((first | (with_reducible first | refine rg (h := ?_) | refine rgS [4] (h := ?_) | refine nx ?_) | refine pK (rwithin_ok _ _ _) ?_); try simp (disch := omega) only [h1, h5, h6, hx, hy, cRun, cRow,go_sem, simprocAttr]) | (with_reducible refine bk ?_) | ((with_reducible refine' cE ?hv ?_ ?_); (case hv => first | rfl | (simp only [h1, h5, h6, hx, hy, cRun, cRow,go_sem, simprocAttr]; rfl)); all_goals (intro hc; (try simp only [go_sem, simprocAttr] at hc); try (exfalso; omega))) | ((with_reducible first | refine grdS_split ?_ ?_ | refine lkG_split ?_ ?_) <;> intro hg <;> (try simp (disch := omega) only [hg, h1, h5, h6, hx, hy, cRun, cRow,go_sem, simprocAttr]) <;> (try simp only [go_sem, simprocAttr] at hg) <;> (try (exfalso; omega))) | ((with_reducible refine fe ?_); refine ⟨_, (by simp only [Try.f51, h1, h5, h6, hx, hy, cRun, cRow,go_sem, simprocAttr]; rfl), ?_⟩; first | rfl | (try simp only [h1, h5, h6, hx, hy, cRun, cRow,go_sem, simprocAttr, seval])) | with_reducible intro (ep : Nat → Nat) | with_reducible apply_assumption -exfalso -symm only [*])
     ·have : rowOK r.cpls.length x = false := by rw [rowOK, hd', show decide (0 ≤ y ∧ y ≤ 2000) = false from decide_eq_false (by omega)]; simp
      rw [hR, hr, this]; simp
     ·refine ⟨x.deg.length - (i + 1), by omega, i + 1, rfl, by omega, rfl, ?_⟩
      rw [hd', show decide (0 ≤ y ∧ y ≤ 2000) = true from decide_eq_true (by omega)]; simp
    ·have hdo : degsOK x.deg = true := by rw [hd, drop_none (by omega)]; rfl
     have hro : rowOK r.cpls.length x = true := by rw [rowOK, hdo, decide_eq_true (by omega)]; rfl
     repeat' (first | (with_reducible refine sk ?_; intro K hK) | ((first | (with_reducible first | refine rg (h := ?_) | refine rgS [4] (h := ?_) | refine nx ?_) | refine pK (rwithin_ok _ _ _) ?_); try simp (disch := omega) only [h1, h5, h6, hx, cRun, cRow,go_sem, simprocAttr]) | (with_reducible refine bk ?_) | ((with_reducible refine' cE ?hv ?_ ?_); (case hv => first | rfl | (simp only [h1, h5, h6, hx, cRun, cRow,go_sem, simprocAttr]; rfl)); all_goals (intro hc; (try simp only [go_sem, simprocAttr] at hc); try (exfalso; omega))) | ((with_reducible first | refine grdS_split ?_ ?_ | refine lkG_split ?_ ?_) <;> intro hg <;> (try simp (disch := omega) only [hg, h1, h5, h6, hx, cRun, cRow,go_sem, simprocAttr]) <;> (try simp only [go_sem, simprocAttr] at hg) <;> (try (exfalso; omega))) | ((with_reducible refine fe ?_); refine ⟨_, (by simp only [Try.f51, h1, h5, h6, hx, cRun, cRow,go_sem, simprocAttr]; rfl), ?_⟩; first | rfl | (try simp only [h1, h5, h6, hx, cRun, cRow,go_sem, simprocAttr, seval])) | with_reducible intro (ep : Nat → Nat) | with_reducible apply_assumption -exfalso -symm only [*])
     refine ⟨r.rows.length - (k + 1), by omega, k + 1, rfl, by omega, rfl, ?_⟩
     rw [hr, hro]; simp
   ·repeat' (first | (with_reducible refine sk ?_; intro K hK) | ((with_reducible first | refine rg (h := ?_) | refine rgS [4] (h := ?_) | refine nx ?_); try simp (disch := omega) only [h1, h5, cRun,go_sem, simprocAttr]) | (with_reducible refine bk ?_) | ((with_reducible refine' cE ?hv ?_ ?_); (case hv => first | rfl | (simp only [h1, h5, cRun,go_sem, simprocAttr]; rfl)); all_goals (intro hc; (try simp only [go_sem, simprocAttr] at hc); try (exfalso; omega))) | ((with_reducible first | refine grdS_split ?_ ?_ | refine lkG_split ?_ ?_) <;> intro hg <;> (try simp (disch := omega) only [hg, h1, h5, cRun,go_sem, simprocAttr]) <;> (try simp only [go_sem, simprocAttr] at hg) <;> (try (exfalso; omega))) | ((with_reducible refine fe ?_); refine ⟨_, (by simp only [Try.f51, h1, h5, cRun,go_sem, simprocAttr]; rfl), ?_⟩; first | rfl | (try simp only [h1, h5, cRun,go_sem, simprocAttr, seval])) | with_reducible intro (ep : Nat → Nat) | with_reducible apply_assumption -exfalso -symm only [*])
    rw [hR, hr, drop_none (by omega)]; rfl
 ·simp only [Bool.not_eq_true] at hcv
  repeat' (first | (with_reducible refine sk ?_; intro K hK) | ((first | (with_reducible first | refine rg (h := ?_) | refine rgS [4] (h := ?_) | refine nx ?_) | refine pK (rwithin_ok _ _ _) ?_ | refine pK (rcurve_ok r.curve hb.curve) ?_ | refine pK (rspanned_ok r.gauge _ _) ?_); try simp (disch := omega) only [hcv, encRun, cRun,go_sem, simprocAttr]) | (with_reducible refine bk ?_) | ((with_reducible refine' cE ?hv ?_ ?_); (case hv => first | rfl | (simp only [hcv, encRun, cRun,go_sem, simprocAttr]; rfl)); all_goals (intro hc; (try simp only [go_sem, simprocAttr] at hc); try (exfalso; omega))) | ((with_reducible first | refine grdS_split ?_ ?_ | refine lkG_split ?_ ?_) <;> intro hg <;> (try simp (disch := omega) only [hg, hcv, encRun, cRun,go_sem, simprocAttr]) <;> (try simp only [go_sem, simprocAttr] at hg) <;> (try (exfalso; omega))) | ((with_reducible refine fe ?_); refine ⟨_, (by simp only [Try.f51, hcv, encRun, cRun,go_sem, simprocAttr]; rfl), ?_⟩; first | rfl | (try simp only [hcv, encRun, cRun,go_sem, simprocAttr, seval])) | with_reducible intro (ep : Nat → Nat) | with_reducible apply_assumption -exfalso -symm only [*])
  all_goals rw [runOK_curve hcv]
end Cp
namespace Cp
open Go Go.Proofs
set_option maxRecDepth 10000
theorem rrules_ok (u : RulesT) (hb : RulesB u) : PureC Try.prog 55 [encRules u] (.bool (rulesOK u)) := by
  have hb1 := hb.steps
  refine PureC_of (fn := Try.f55) tabOK (by kernel_rfl) rfl (by kernel_rfl) (by simp [Try.f55]) (by simp [noids, noid, noidss, go_sem, encRules, cRules]) (by first | rfl | simp [noids, noid, noidss, go_sem, encRules, cRules]) ?_
  intro X hX0 hXs
  repeat' (first | (with_reducible refine sk ?_; intro K hK) | ((first | (with_reducible first | refine rg (h := ?_) | refine nx ?_) | refine pK (rwithin_ok _ _ _) ?_ | refine pK (rspanned_ok u.press _ _) ?_); try simp (disch := omega) only [encRules, cRules,go_sem, simprocAttr]) | (with_reducible refine bk ?_) | ((with_reducible refine' cE ?hv ?_ ?_); (case hv => first | rfl | (simp only [encRules, cRules,go_sem, simprocAttr]; rfl)); all_goals (intro hc; (try simp only [go_sem, simprocAttr] at hc); try (exfalso; omega))) | ((with_reducible first | refine grdS_split ?_ ?_ | refine lkG_split ?_ ?_) <;> intro hg <;> (try simp (disch := omega) only [hg, encRules, cRules,go_sem, simprocAttr]) <;> (try simp only [go_sem, simprocAttr] at hg) <;> (try (exfalso; omega))) | ((with_reducible refine fe ?_); refine ⟨_, (by simp only [Try.f55, encRules, cRules,go_sem, simprocAttr]; rfl), ?_⟩; first | rfl | (try simp only [encRules, cRules,go_sem, simprocAttr, seval])) | with_reducible intro (ep : Nat → Nat) | with_reducible apply_assumption -exfalso -symm only [*])
  iterate 5 (have : limsOK u = false := by (simp only [limsOK, decide_eq_false_iff_not]; omega)
             rw [rulesOK, this]; rfl)
  have hh : limsOK u = true := by simp only [limsOK, decide_eq_true_eq]; omega
  have hR : rulesOK u = stepsFrom 0 u.steps := by rw [rulesOK, hh]; rfl
  refine AW_block (AW_loop (fun n f H => ∃ k : Nat, n = u.steps.length - k ∧ k ≤ u.steps.length ∧ (f 1 = .pim (cRules u) ∧ f 3 = .int .i64 k) ∧ ∃ last, (k = 0 → last = 0) ∧ (∀ j, k = j + 1 → ∃ a, u.steps[j]? = some a ∧ a.frm = last) ∧ 0 ≤ last ∧ last ≤ 600 ∧ stepsFrom 0 u.steps = stepsFrom last (u.steps.drop k)) u.steps.length
    ⟨0, by simp, Nat.zero_le _, by (and_intros <;> first | rfl | (simp only [cRules, go_sem, simprocAttr]; done) | (simp only [cRules, go_sem, simprocAttr]; rfl)), 0, by simp, by simp, by simp, by simp, by simp⟩ ?_)
  rintro n f H ⟨k, rfl, hk, ⟨h1, h3⟩, last, hl0, hl1, hl2, hl3, hr⟩
  by_cases hlt : k < u.steps.length
  · obtain ⟨x, hx⟩ : ∃ x, u.steps[k]? = some x := ⟨_, List.getElem?_eq_getElem hlt⟩
    rw [drop_cons hx] at hr
    simp only [stepsFrom] at hr
    have bad : stepOK last x = false → false = rulesOK u := fun h => by rw [hR, hr, h]; simp
    have good : stepOK last x = true → ∃ m, m < u.steps.length - k ∧ ∃ k', m = u.steps.length - k' ∧ k' ≤ u.steps.length ∧ Val.int .i64 ((k + 1 : Nat) : Int) = .int .i64 (k' : Int) ∧ ∃ last, (k' = 0 → last = 0) ∧ (∀ j, k' = j + 1 → ∃ a, u.steps[j]? = some a ∧ a.frm = last) ∧ 0 ≤ last ∧ last ≤ 600 ∧ stepsFrom 0 u.steps = stepsFrom last (u.steps.drop k') := fun h => by
      refine ⟨u.steps.length - (k + 1), by omega, k + 1, rfl, by omega, rfl, x.frm, by omega, (fun j hj => ⟨x, (by rw [show j = k by omega]; exact hx), rfl⟩), ?_⟩
      have h' := h
      simp only [stepOK, decide_eq_true_eq] at h
      refine ⟨by omega, by omega, ?_⟩
      rw [hr, h']; simp
    simp only [stepOK, decide_eq_false_iff_not, decide_eq_true_eq] at bad good
    rcases k with _ | j
    · obtain rfl := hl0 rfl
      repeat' (first | (with_reducible refine sk ?_; intro K hK) | ((first | (with_reducible first | refine rg (h := ?_) | refine nx ?_) | refine pK (rwithin_ok _ _ _) ?_); try simp (disch := omega) only [h1, h3, hx, cRules, cStep,go_sem, simprocAttr]) | (with_reducible refine bk ?_) | ((with_reducible refine' cE ?hv ?_ ?_); (case hv => first | rfl | (simp only [h1, h3, hx, cRules, cStep,go_sem, simprocAttr]; rfl)); all_goals (intro hc; (try simp only [go_sem, simprocAttr] at hc); try (exfalso; omega))) | ((with_reducible first | refine grdS_split ?_ ?_ | refine lkG_split ?_ ?_) <;> intro hg <;> (try simp (disch := omega) only [hg, h1, h3, hx, cRules, cStep,go_sem, simprocAttr]) <;> (try simp only [go_sem, simprocAttr] at hg) <;> (try (exfalso; omega))) | ((with_reducible refine fe ?_); refine ⟨_, (by simp only [Try.f55, h1, h3, hx, cRules, cStep,go_sem, simprocAttr]; rfl), ?_⟩; first | rfl | (try simp only [h1, h3, hx, cRules, cStep,go_sem, simprocAttr, seval])) | with_reducible intro (ep : Nat → Nat) | with_reducible apply_assumption -exfalso -symm only [*])
      all_goals omega
    · obtain ⟨a, haj, hal⟩ := hl1 j rfl
      repeat' (first | (with_reducible refine sk ?_; intro K hK) | ((first | (with_reducible first | refine rg (h := ?_) | refine nx ?_) | refine pK (rwithin_ok _ _ _) ?_); try simp (disch := omega) only [h1, h3, hx, haj, cRules, cStep,go_sem, simprocAttr]) | (with_reducible refine bk ?_) | ((with_reducible refine' cE ?hv ?_ ?_); (case hv => first | rfl | (simp only [h1, h3, hx, haj, cRules, cStep,go_sem, simprocAttr]; rfl)); all_goals (intro hc; (try simp only [go_sem, simprocAttr] at hc); try (exfalso; omega))) | ((with_reducible first | refine grdS_split ?_ ?_ | refine lkG_split ?_ ?_) <;> intro hg <;> (try simp (disch := omega) only [hg, h1, h3, hx, haj, cRules, cStep,go_sem, simprocAttr]) <;> (try simp only [go_sem, simprocAttr] at hg) <;> (try (exfalso; omega))) | ((with_reducible refine fe ?_); refine ⟨_, (by simp only [Try.f55, h1, h3, hx, haj, cRules, cStep,go_sem, simprocAttr]; rfl), ?_⟩; first | rfl | (try simp only [h1, h3, hx, haj, cRules, cStep,go_sem, simprocAttr, seval])) | with_reducible intro (ep : Nat → Nat) | with_reducible apply_assumption -exfalso -symm only [*])
      all_goals omega
  · repeat' (first | (with_reducible refine sk ?_; intro K hK) | ((with_reducible first | refine rg (h := ?_) | refine nx ?_); try simp (disch := omega) only [h1, h3, cRules,go_sem, simprocAttr]) | (with_reducible refine bk ?_) | ((with_reducible refine' cE ?hv ?_ ?_); (case hv => first | rfl | (simp only [h1, h3, cRules,go_sem, simprocAttr]; rfl)); all_goals (intro hc; (try simp only [go_sem, simprocAttr] at hc); try (exfalso; omega))) | ((with_reducible first | refine grdS_split ?_ ?_ | refine lkG_split ?_ ?_) <;> intro hg <;> (try simp (disch := omega) only [hg, h1, h3, cRules,go_sem, simprocAttr]) <;> (try simp only [go_sem, simprocAttr] at hg) <;> (try (exfalso; omega))) | ((with_reducible refine fe ?_); refine ⟨_, (by simp only [Try.f55, h1, h3, cRules,go_sem, simprocAttr]; rfl), ?_⟩; first | rfl | (try simp only [h1, h3, cRules,go_sem, simprocAttr, seval])) | with_reducible intro (ep : Nat → Nat) | with_reducible apply_assumption -exfalso -symm only [*])
    rw [hR, hr, drop_none (by omega)]; rfl
def checkE (r : RunT) (u : RulesT) : Int := if runOK r = true then (if rulesOK u = true then 0 else 12) else 11
theorem rcheck_ok (r : RunT) (u : RulesT) (hb : RunB r) (hu : RulesB u) : PureC Try.prog 21 [encRun r, encRules u] (.int .i64 (checkE r u)) := by
 refine PureC_of (fn := Try.f21) tabOK (by kernel_rfl) rfl (by kernel_rfl) (by simp [Try.f21]) (by simp [noids, noid, noidss, go_sem, encRun, cRun, encRules, cRules]) (by first | rfl | simp [noids, noid, noidss, go_sem, encRun, cRun, encRules, cRules]) ?_
 intro X hX0 hXs
 repeat' (first | (with_reducible refine sk ?_; intro K hK) | ((first | (with_reducible first | refine rg (h := ?_) | refine nx ?_) | refine pK (rrun_ok r hb) ?_ | refine pK (rrules_ok u hu) ?_); try simp (disch := omega) only [encRun, cRun, encRules, cRules,go_sem, simprocAttr]) | (with_reducible refine bk ?_) | ((with_reducible refine' cE ?hv ?_ ?_); (case hv => first | rfl | (simp only [encRun, cRun, encRules, cRules,go_sem, simprocAttr]; rfl)); all_goals (intro hc; (try simp only [go_sem, simprocAttr] at hc); try (exfalso; omega))) | ((with_reducible refine fe ?_); refine ⟨_, (by simp only [Try.f21, encRun, cRun, encRules, cRules,go_sem, simprocAttr]; rfl), ?_⟩; first | rfl | (try simp only [encRun, cRun, encRules, cRules,go_sem, simprocAttr, seval])) | with_reducible intro (ep : Nat → Nat) | with_reducible apply_assumption -exfalso -symm only [*])
 all_goals simp_all [checkE]
theorem check_ok (r : RunT) (u : RulesT) (hb : RunB r) (hu : RulesB u) : PureC Try.prog 20 [encRun r, encRules u] (.int .i64 (checkE r u)) := by
 have hb1 := hu.steps
 refine PureC_of (fn := Try.f20) tabOK (by kernel_rfl) rfl (by kernel_rfl) (by simp [Try.f20]) (by simp [noids, noid, noidss, go_sem, encRun, cRun, encRules, cRules]) (by first | rfl | simp [noids, noid, noidss, go_sem, encRun, cRun, encRules, cRules]) ?_
 intro X hX0 hXs
 repeat' (first | (with_reducible refine sk ?_; intro K hK) | ((first | (with_reducible first | refine rg (h := ?_) | refine rgS [7] (h := ?_) | refine nx ?_) | refine pK (ran_ok r hb) ?_); try simp (disch := omega) only [encRun, cRun, encRules, cRules,go_sem, simprocAttr]) | (with_reducible refine bk ?_) | ((with_reducible refine' cE ?hv ?_ ?_); (case hv => first | rfl | (simp only [encRun, cRun, encRules, cRules,go_sem, simprocAttr]; rfl)); all_goals (intro hc; (try simp only [go_sem, simprocAttr] at hc); try (exfalso; omega))) | ((with_reducible first | refine grdS_split ?_ ?_ | refine lkG_split ?_ ?_) <;> intro hg <;> (try simp (disch := omega) only [hg, encRun, cRun, encRules, cRules,go_sem, simprocAttr]) <;> (try simp only [go_sem, simprocAttr] at hg) <;> (try (exfalso; omega))) | ((with_reducible refine fe ?_); refine ⟨_, (by simp only [Try.f20, encRun, cRun, encRules, cRules,go_sem, simprocAttr]; rfl), ?_⟩; first | rfl | (try simp only [encRun, cRun, encRules, cRules,go_sem, simprocAttr, seval])) | with_reducible intro (ep : Nat → Nat) | with_reducible apply_assumption -exfalso -symm only [*])
 ·simp_all [checkE]
 ·have hC : checkE r u = if rulesOK u = true then 0 else 12 := by simp_all [checkE]
  refine AW_range tabOK u.steps.length (fun k f H => f 3 = .pim (cRules u) ∧ f 12 = .lst 2 (u.steps.map cStep) ∧ ∃ last, f 5 = .int .i64 last ∧ 0 ≤ last ∧ last ≤ 600 ∧ stepsFrom 0 u.steps = stepsFrom last (u.steps.drop k)) hu.steps (by rw [hXs]; decide) (by decide) (by simp only [go_sem, simprocAttr]) (by simp only [go_sem, simprocAttr])
   ⟨by simp only [go_sem, simprocAttr, cRules], by simp only [go_sem, simprocAttr], 0, by simp only [go_sem, simprocAttr], by omega, by omega, by simp⟩ ?_ ?_
  ·rintro k f H hk h14 h13 ⟨h3, h12, last, h5, hl1, hl2, hr⟩
   obtain ⟨x, hx⟩ : ∃ x, u.steps[k]? = some x := ⟨_, List.getElem?_eq_getElem hk⟩
   rw [drop_cons hx] at hr
   simp only [stepsFrom] at hr
   have bad : stepOK last x = false → 12 = checkE r u := fun h => by
    have : rulesOK u = false := by rw [rulesOK, hr, h]; simp
    rw [hC, this]; rfl
   simp only [stepOK, decide_eq_false_iff_not] at bad
   refine AW_keep [] ?_
   repeat' (first | (with_reducible refine sk ?_; intro K hK) | ((first | (with_reducible first | refine rg (h := ?_) | refine rgS [7] (h := ?_) | refine nx ?_) | refine pK (in_1 _ _ _) ?_); try simp (disch := omega) only [h3, h5, h12, h13, h14, hx, cRules, cStep,go_sem, simprocAttr]) | (with_reducible refine bk ?_) | ((with_reducible refine' cE ?hv ?_ ?_); (case hv => first | rfl | (simp only [h3, h5, h12, h13, h14, hx, cRules, cStep,go_sem, simprocAttr]; rfl)); all_goals (intro hc; (try simp only [go_sem, simprocAttr] at hc); try (exfalso; omega))) | ((with_reducible first | refine grdS_split ?_ ?_ | refine lkG_split ?_ ?_) <;> intro hg <;> (try simp (disch := omega) only [hg, h3, h5, h12, h13, h14, hx, cRules, cStep,go_sem, simprocAttr]) <;> (try simp only [go_sem, simprocAttr] at hg) <;> (try (exfalso; omega))) | ((with_reducible refine fe ?_); refine ⟨_, (by simp only [Try.f20, h3, h5, h12, h13, h14, hx, cRules, cStep,go_sem, simprocAttr]; rfl), ?_⟩; first | rfl | (try simp only [h3, h5, h12, h13, h14, hx, cRules, cStep,go_sem, simprocAttr, seval])) | with_reducible intro (ep : Nat → Nat) | with_reducible apply_assumption -exfalso -symm only [*])
   iterate 2 (first | exact bad (by omega) | omega)
   have h' : stepOK last x = true := by simp only [stepOK, decide_eq_true_eq]; omega
   refine ⟨x.frm, rfl, by omega, by omega, ?_⟩
   rw [hr, h']; simp
  ·rintro f H h14 h13 ⟨h3, h12, last, h5, hl1, hl2, hr⟩
   have hs : stepsFrom 0 u.steps = true := by rw [hr, drop_none (Nat.le_refl _)]; rfl
   have hR : rulesOK u = limsOK u := by rw [rulesOK, hs, Bool.and_true]
   have bad : limsOK u = false → 12 = checkE r u := fun h => by rw [hC, hR, h]; rfl
   simp only [limsOK, decide_eq_false_iff_not] at bad
   repeat' (first | (with_reducible refine sk ?_; intro K hK) | ((first | (with_reducible first | refine rg (h := ?_) | refine rgS [7] (h := ?_) | refine nx ?_) | refine pK (in_1 _ _ _) ?_ | refine pK (in_2 _ _ _ _) ?_ | refine pK (ordered_ok u.press _ _) ?_); try simp (disch := omega) only [h3, cRules,go_sem, simprocAttr]) | (with_reducible refine bk ?_) | ((with_reducible refine' cE ?hv ?_ ?_); (case hv => first | rfl | (simp only [h3, cRules,go_sem, simprocAttr]; rfl)); all_goals (intro hc; (try simp only [go_sem, simprocAttr] at hc); try (exfalso; omega))) | ((with_reducible first | refine grdS_split ?_ ?_ | refine lkG_split ?_ ?_) <;> intro hg <;> (try simp (disch := omega) only [hg, h3, cRules,go_sem, simprocAttr]) <;> (try simp only [go_sem, simprocAttr] at hg) <;> (try (exfalso; omega))) | ((with_reducible refine fe ?_); refine ⟨_, (by simp only [Try.f20, h3, cRules,go_sem, simprocAttr]; rfl), ?_⟩; first | rfl | (try simp only [h3, cRules,go_sem, simprocAttr, seval])) | with_reducible intro (ep : Nat → Nat) | with_reducible apply_assumption -exfalso -symm only [*])
   iterate 4 (first | exact bad (by omega) | omega)
   have h' : limsOK u = true := by simp only [limsOK, decide_eq_true_eq]; omega
   rw [hC, hR, h']; rfl
end Cp
namespace Cp
open Go
def works (c : Cpl) (m : Int) : Bool := decide (c.brk = 0 ∨ m < c.brk)
def wkFrom (m : Int) : Nat → List Cpl → List Nat
 | _, [] => []
 | k, c :: l => if works c m = true then k :: wkFrom m (k + 1) l else wkFrom m (k + 1) l
def wk (r : RunT) (m : Int) : List Nat := wkFrom m 0 r.cpls
def natI (l : List Nat) : List Int := l.map fun (k : Nat) => (k : Int)
theorem natI_length {l : List Nat} : (natI l).length = l.length := by simp [natI]
def readAt (r : RunT) (i : Nat) (row : Int) : Int := ((r.rows[(row - 1).toNat]?).bind fun x => x.deg[i]?).getD 0
def lastRow (r : RunT) (c : Cpl) : Int := if 0 < c.brk then min (r.rows.length : Int) (c.brk - 1) else r.rows.length
def readLag (r : RunT) (c : Cpl) (i : Nat) (m lag : Int) : Int := readAt r i (min (m + lag) (lastRow r c))
def extLo (g : Int → Int) (lo : Int) : Nat → Int
 | 0 => g lo
 | n + 1 => min (extLo g lo n) (g (lo + (n + 1 : Nat)))
def extHi (g : Int → Int) (lo : Int) : Nat → Int
 | 0 => g lo
 | n + 1 => max (extHi g lo n) (g (lo + (n + 1 : Nat)))
def truth (r : RunT) (c : Cpl) (i : Nat) (m : Int) : Span :=
 ⟨extLo (readLag r c i m) c.lag.lo (c.lag.hi - c.lag.lo).toNat - c.err.hi, extHi (readLag r c i m) c.lag.lo (c.lag.hi - c.lag.lo).toNat - c.err.lo⟩
structure RunF (r : RunT) : Prop where
 curve : CurveF r.curve
 cpls : 1 ≤ r.cpls.length ∧ r.cpls.length ≤ 8
 rows : 1 ≤ r.rows.length ∧ r.rows.length ≤ 60 ∧ r.rows.length ≤ lastM r.curve
 gauge : -20 ≤ r.gauge.lo ∧ r.gauge.lo ≤ r.gauge.hi ∧ r.gauge.hi ≤ 20
 cpl : ∀ (i : Nat) (c : Cpl), r.cpls[i]? = some c → (0 ≤ c.id ∧ c.id ≤ 9999) ∧ (-50 ≤ c.err.lo ∧ c.err.lo ≤ c.err.hi ∧ c.err.hi ≤ 50) ∧ (0 ≤ c.lag.lo ∧ c.lag.lo ≤ c.lag.hi ∧ c.lag.hi ≤ 3) ∧ 0 ≤ c.brk ∧ c.brk ≤ 600
 ids : ∀ (i j : Nat) (a b : Cpl), i < j → r.cpls[i]? = some a → r.cpls[j]? = some b → a.id < b.id
 row : ∀ (i : Nat) (x : RowT), r.rows[i]? = some x → x.deg.length = r.cpls.length ∧ -100 ≤ x.press ∧ x.press ≤ 100 ∧ ∀ (j : Nat) (d : Int), x.deg[j]? = some d → 0 ≤ d ∧ d ≤ 2000
theorem cplsFrom_facts : ∀ (l : List Cpl) (last : Int), -1 ≤ last → cplsFrom last l = true →
  (∀ (i : Nat) (c : Cpl), l[i]? = some c → last < c.id ∧ (0 ≤ c.id ∧ c.id ≤ 9999) ∧ (-50 ≤ c.err.lo ∧ c.err.lo ≤ c.err.hi ∧ c.err.hi ≤ 50) ∧ (0 ≤ c.lag.lo ∧ c.lag.lo ≤ c.lag.hi ∧ c.lag.hi ≤ 3) ∧ 0 ≤ c.brk ∧ c.brk ≤ 600) ∧
  (∀ (i j : Nat) (a b : Cpl), i < j → l[i]? = some a → l[j]? = some b → a.id < b.id)
 | [], last, _, _ => ⟨fun i p h => by simp at h, fun i j p q _ h => by simp at h⟩
 | b :: l, last, h1, h => by
  simp only [cplsFrom, Bool.and_eq_true] at h
  obtain ⟨hb, hl⟩ := h
  simp only [cplOK, decide_eq_true_eq] at hb
  obtain ⟨f1, f2⟩ := cplsFrom_facts l b.id (by omega) hl
  refine ⟨fun i p hi => ?_, fun i j p q hij hi hj => ?_⟩
  ·cases i with
   | zero => simp at hi; subst hi; omega
   | succ i => have := f1 i p (by simpa using hi); omega
  ·cases j with
   | zero => omega
   | succ j =>
    cases i with
    | zero => simp at hi; subst hi; have := f1 j q (by simpa using hj); omega
    | succ i => exact f2 i j p q (by omega) (by simpa using hi) (by simpa using hj)
theorem run_facts {r : RunT} (h : runOK r = true) : RunF r := by
 simp only [runOK, Bool.and_eq_true, headOK, decide_eq_true_eq, List.all_eq_true] at h
 obtain ⟨⟨⟨h1, h2⟩, h3⟩, h4⟩ := h
 obtain ⟨f1, f2⟩ := cplsFrom_facts r.cpls (-1) (by omega) h3
 refine ⟨curve_facts h1, h2.2.2.1, h2.2.2.2, h2.2.1, fun i c hi => (f1 i c hi).2, f2, fun i x hx => ?_⟩
 have := h4 x (List.mem_of_getElem? hx)
 simp only [rowOK, degsOK, Bool.and_eq_true, decide_eq_true_eq, List.all_eq_true] at this
 exact ⟨this.1.1, this.1.2.1, this.1.2.2, fun j d hj => this.2 d (List.mem_of_getElem? hj)⟩
theorem works_iff {c : Cpl} {m : Int} : works c m = true ↔ c.brk = 0 ∨ m < c.brk := by simp [works]
theorem wkFrom_mem : ∀ (l : List Cpl) (k : Nat) (m : Int) (i : Nat), i ∈ wkFrom m k l ↔ ∃ j c, i = k + j ∧ l[j]? = some c ∧ works c m = true
 | [], k, m, i => by simp [wkFrom]
 | c :: l, k, m, i => by
  have ih := wkFrom_mem l (k + 1) m i
  have step : (∃ j c', i = k + j ∧ (c :: l)[j]? = some c' ∧ works c' m = true) ↔ (i = k ∧ works c m = true) ∨ ∃ j c', i = k + 1 + j ∧ l[j]? = some c' ∧ works c' m = true := by
   constructor
   ·rintro ⟨j, c', h1, h2, h3⟩
    cases j with
    | zero => simp at h2; subst h2; exact .inl ⟨by omega, h3⟩
    | succ j => exact .inr ⟨j, c', by omega, by simpa using h2, h3⟩
   ·rintro (⟨h1, h2⟩ | ⟨j, c', h1, h2, h3⟩)
    ·exact ⟨0, c, by omega, rfl, h2⟩
    ·exact ⟨j + 1, c', by omega, by simpa using h2, h3⟩
  rw [step]
  simp only [wkFrom]
  split
  ·rename_i hw; rw [List.mem_cons, ih]; simp [hw]
  ·rename_i hw; rw [ih]; simp [hw]
theorem wk_mem {r : RunT} {m : Int} {i : Nat} : i ∈ wk r m ↔ ∃ c, r.cpls[i]? = some c ∧ works c m = true := by
 unfold wk
 rw [wkFrom_mem]
 constructor
 ·rintro ⟨j, c, h1, h2, h3⟩; exact ⟨c, by rw [h1, Nat.zero_add]; exact h2, h3⟩
 ·rintro ⟨c, h2, h3⟩; exact ⟨i, c, by omega, h2, h3⟩
theorem lastRow_pos {r : RunT} (hF : RunF r) {i : Nat} {c : Cpl} (hc : r.cpls[i]? = some c) {m : Int} (hm : 1 ≤ m) (hw : works c m = true) : 1 ≤ lastRow r c ∧ lastRow r c ≤ r.rows.length := by
 have h1 := hF.rows
 rw [works_iff] at hw
 unfold lastRow
 split <;> omega
theorem readAt_some {r : RunT} {i : Nat} {row : Int} {x : RowT} {d : Int} (h1 : r.rows[(row - 1).toNat]? = some x) (h2 : x.deg[i]? = some d) : readAt r i row = d := by unfold readAt; rw [h1]; simp only [Option.bind_some, h2, Option.getD_some]
theorem readAt_ok {r : RunT} (hF : RunF r) {i : Nat} (hi : i < r.cpls.length) {row : Int} (h1 : 1 ≤ row) (h2 : row ≤ r.rows.length) :
  ∃ x d, r.rows[(row - 1).toNat]? = some x ∧ x.deg[i]? = some d ∧ readAt r i row = d ∧ 0 ≤ d ∧ d ≤ 2000 := by
 obtain ⟨x, hx⟩ : ∃ x, r.rows[(row - 1).toNat]? = some x := ⟨_, List.getElem?_eq_getElem (by omega)⟩
 obtain ⟨q1, q2, q3, q4⟩ := hF.row _ x hx
 obtain ⟨d, hd⟩ : ∃ d, x.deg[i]? = some d := ⟨_, List.getElem?_eq_getElem (by omega)⟩
 exact ⟨x, d, hx, hd, readAt_some hx hd, q4 i d hd⟩
theorem ext_bounds {g : Int → Int} {lo a b : Int} : ∀ (n : Nat), (∀ k : Nat, k ≤ n → a ≤ g (lo + k) ∧ g (lo + k) ≤ b) → a ≤ extLo g lo n ∧ extLo g lo n ≤ extHi g lo n ∧ extHi g lo n ≤ b
 | 0, h => by have := h 0 (by omega); simp [extLo, extHi] at this ⊢; exact this
 | n + 1, h => by
  have ih := ext_bounds n fun k hk => h k (by omega)
  have := h (n + 1) (by omega)
  simp only [extLo, extHi]
  omega
@[go_sem] theorem natI_get {l : List Nat} {k : Nat} : (natI l)[k]? = (l[k]?).map fun (n : Nat) => (n : Int) := by simp [natI]
@[go_sem] theorem natI_len {l : List Nat} : (natI l).length = l.length := natI_length
theorem mul_bnd {a q A B C : Int} (h1 : -A ≤ a) (h2 : a ≤ B) (hA : 0 ≤ A) (hB : 0 ≤ B) (h3 : 0 ≤ q) (h4 : q ≤ C) : -(A * C) ≤ a * q ∧ a * q ≤ B * C := by
 have e1 : a * q ≤ B * q := Int.mul_le_mul_of_nonneg_right h2 h3
 have e2 : B * q ≤ B * C := Int.mul_le_mul_of_nonneg_left h4 hB
 have e3 : -A * q ≤ a * q := Int.mul_le_mul_of_nonneg_right h1 h3
 have e4 : A * q ≤ A * C := Int.mul_le_mul_of_nonneg_left h4 hA
 rw [Int.neg_mul] at e3
 omega
def sumLo (r : RunT) (m : Int) : List Nat → Int
 | [] => 0
 | i :: l => (match r.cpls[i]? with | some c => (truth r c i m).lo | none => 0) + sumLo r m l
def sumHi (r : RunT) (m : Int) : List Nat → Int
 | [] => 0
 | i :: l => (match r.cpls[i]? with | some c => (truth r c i m).hi | none => 0) + sumHi r m l
def meanS (r : RunT) (m : Int) : Span := ⟨sumLo r m (wk r m) * (840 / (wk r m).length), sumHi r m (wk r m) * (840 / (wk r m).length)⟩
theorem truth_bounds {r : RunT} (hF : RunF r) {i : Nat} {c : Cpl} (hc : r.cpls[i]? = some c) {m : Int} (hm : 1 ≤ m) (hm2 : m ≤ r.rows.length) (hw : works c m = true) :
  -50 ≤ (truth r c i m).lo ∧ (truth r c i m).lo ≤ (truth r c i m).hi ∧ (truth r c i m).hi ≤ 2050 := by
 have hi : i < r.cpls.length := (List.getElem?_eq_some_iff.1 hc).1
 have hcf := hF.cpl i c hc
 obtain ⟨l1, l2⟩ := lastRow_pos hF hc hm hw
 have hrows := hF.rows
 have := ext_bounds (g := readLag r c i m) (lo := c.lag.lo) (a := 0) (b := 2000) (c.lag.hi - c.lag.lo).toNat (fun k hk => by
  obtain ⟨x, d, _, _, h1, h2, h3⟩ := readAt_ok hF hi (row := min (m + (c.lag.lo + k)) (lastRow r c)) (by omega) (by omega)
  unfold readLag
  rw [h1]; exact ⟨h2, h3⟩)
 simp only [truth]
 omega
theorem sum_bounds {r : RunT} (hF : RunF r) {m : Int} (hm : 1 ≤ m) (hm2 : m ≤ r.rows.length) : ∀ (l : List Nat), (∀ i ∈ l, i ∈ wk r m) → -50 * l.length ≤ sumLo r m l ∧ sumLo r m l ≤ sumHi r m l ∧ sumHi r m l ≤ 2050 * l.length
 | [], _ => by simp [sumLo, sumHi]
 | i :: l, h => by
  have ih := sum_bounds hF hm hm2 l fun j hj => h j (by simp [hj])
  obtain ⟨c, h1, h2⟩ := wk_mem.1 (h i (by simp))
  have := truth_bounds hF h1 hm hm2 h2
  simp only [sumLo, sumHi, h1, List.length_cons]
  omega
theorem wkFrom_len (m : Int) : ∀ (l : List Cpl) (k : Nat), (wkFrom m k l).length ≤ l.length
 | [], k => by simp [wkFrom]
 | c :: l, k => by
  have := wkFrom_len m l (k + 1)
  simp only [wkFrom]
  split <;> simp <;> omega
theorem wk_len {r : RunT} {m : Int} : (wk r m).length ≤ r.cpls.length := wkFrom_len m _ _
end Cp
namespace Cp
open Go Go.Proofs
set_option maxRecDepth 10000
theorem works_ok (c : Cpl) (m : Int) : PureC Try.prog 40 [.agg (cCpl c), .int .i64 m] (.bool (works c m)) := by
 refine PureC_of (fn := Try.f40) tabOK (by kernel_rfl) rfl (by kernel_rfl) (by simp [Try.f40]) (by simp [noids, noid, noidss, go_sem, cCpl]) (by first | rfl | simp [noids, noid, noidss, go_sem, cCpl]) ?_
 intro X hX0 hXs
 repeat' (first | (with_reducible refine sk ?_; intro K hK) | ((with_reducible first | refine rg (h := ?_) | refine nx ?_); try simp (disch := omega) only [cCpl,go_sem, simprocAttr]) | (with_reducible refine bk ?_) | ((with_reducible refine' cE ?hv ?_ ?_); (case hv => first | rfl | (simp only [cCpl,go_sem, simprocAttr]; rfl)); all_goals (intro hc; (try simp only [go_sem, simprocAttr] at hc); try (exfalso; omega))) | ((with_reducible first | refine grdS_split ?_ ?_ | refine lkG_split ?_ ?_) <;> intro hg <;> (try simp (disch := omega) only [hg, cCpl,go_sem, simprocAttr]) <;> (try simp only [go_sem, simprocAttr] at hg) <;> (try (exfalso; omega))) | ((with_reducible refine fe ?_); refine ⟨_, (by simp only [Try.f40, cCpl,go_sem, simprocAttr]; rfl), ?_⟩; first | rfl | (try simp only [cCpl,go_sem, simprocAttr, seval])) | with_reducible intro (ep : Nat → Nat) | with_reducible apply_assumption -exfalso -symm only [*])
 all_goals (rw [works, Bool.eq_iff_iff]; simp; omega)
end Cp
namespace Cp
open Go Go.Proofs
set_option maxRecDepth 10000
theorem quo840 {n : Nat} (h1 : 1 ≤ n) (h2 : n ≤ 8) : IntKind.i64.wrap ((840 : Int).tdiv (n : Int)) = 840 / (n : Int) ∧ 105 ≤ 840 / (n : Int) ∧ 840 / (n : Int) ≤ 840 := by
 have e : (840 : Int).tdiv (n : Int) = 840 / (n : Int) := Int.tdiv_eq_ediv_of_nonneg (by omega)
 obtain rfl | rfl | rfl | rfl | rfl | rfl | rfl | rfl : n = 1 ∨ n = 2 ∨ n = 3 ∨ n = 4 ∨ n = 5 ∨ n = 6 ∨ n = 7 ∨ n = 8 := by omega
 all_goals decide
end Cp
namespace Cp
open Go
structure Brc where
 m : Int
 kind : Int
 cpl : Int
 known : Int
 deriving DecidableEq
def cBrc (b : Brc) : List Val := [.int .i64 b.m, .int .u8 b.kind, .int .i64 b.cpl, .int .u8 b.known]
@[go_sem] theorem fzd_cBrc {H : Hp} {n : Nat} {l : List Brc} : ((l.map cBrc).map fun es => es.map (fzd H (n + 1))) = l.map cBrc := map_id2 (fun _ => rfl) l
@[go_sem] theorem cBrc_noid {l : List Brc} : noidss (l.map cBrc) = true := noidss_map fun _ => rfl
def greatS (r : RunT) (u : RulesT) : Bool := decide (15 < r.curve.length ∨ 12 < r.cpls.length ∨ 80 < r.rows.length ∨ 10 < u.steps.length) || r.rows.any fun x => decide (15 < x.deg.length)
structure RunSm (r : RunT) : Prop where
 curve : r.curve.length ≤ 15
 cpls : r.cpls.length ≤ 12
 rows : r.rows.length ≤ 80
 degs : ∀ x ∈ r.rows, x.deg.length ≤ 15
theorem great_sm {r : RunT} {u : RulesT} (h : greatS r u = false) : RunSm r ∧ u.steps.length ≤ 10 := by
 simp only [greatS, Bool.or_eq_false_iff, decide_eq_false_iff_not, List.any_eq_false, decide_eq_true_eq] at h
 exact ⟨⟨by omega, by omega, by omega, fun x hx => by have := h.2 x hx; omega⟩, by omega⟩
theorem RunSm.b {r : RunT} (h : RunSm r) : RunB r := ⟨by have := h.curve; omega, by have := h.cpls; omega, by have := h.rows; omega, fun x hx => by have := h.degs x hx; omega⟩
end Cp
namespace Cp
open Go Go.Proofs
set_option maxRecDepth 10000
theorem great_ok (r : RunT) (u : RulesT) : PureC Try.prog 14 [encRun r, encRules u] (.bool (greatS r u)) := by
  refine PureC_of (fn := Try.f14) tabOK (by kernel_rfl) rfl (by kernel_rfl) (by simp [Try.f14]) (by simp [noids, noid, noidss, go_sem, encRun, cRun, encRules, cRules]) (by first | rfl | simp [noids, noid, noidss, go_sem, encRun, cRun, encRules, cRules]) ?_
  intro X hX0 hXs
  repeat' (first | (with_reducible refine sk ?_; intro K hK) | ((with_reducible first | refine rg (h := ?_) | refine nx ?_); try simp (disch := omega) only [encRun, cRun, encRules, cRules,go_sem, simprocAttr]) | (with_reducible refine bk ?_) | ((with_reducible refine' cE ?hv ?_ ?_); (case hv => first | rfl | (simp only [encRun, cRun, encRules, cRules,go_sem, simprocAttr]; rfl)); all_goals (intro hc; (try simp only [go_sem, simprocAttr] at hc); try (exfalso; omega))) | ((with_reducible first | refine grdS_split ?_ ?_ | refine lkG_split ?_ ?_) <;> intro hg <;> (try simp (disch := omega) only [hg, encRun, cRun, encRules, cRules,go_sem, simprocAttr]) <;> (try simp only [go_sem, simprocAttr] at hg) <;> (try (exfalso; omega))) | ((with_reducible refine fe ?_); refine ⟨_, (by simp only [Try.f14, encRun, cRun, encRules, cRules,go_sem, simprocAttr]; rfl), ?_⟩; first | rfl | (try simp only [encRun, cRun, encRules, cRules,go_sem, simprocAttr, seval])) | with_reducible intro (ep : Nat → Nat) | with_reducible apply_assumption -exfalso -symm only [*])
  iterate 4 (have : 15 < r.curve.length ∨ 12 < r.cpls.length ∨ 80 < r.rows.length ∨ 10 < u.steps.length := by omega
             rw [greatS, decide_eq_true this]; rfl)
  have hg : greatS r u = r.rows.any fun x => decide (15 < x.deg.length) := by rw [greatS, decide_eq_false (by omega)]; rfl
  refine AW_block (AW_loop (fun n f H => ∃ k : Nat, n = r.rows.length - k ∧ k ≤ r.rows.length ∧ (f 2 = .pim (cRun r) ∧ f 5 = .int .i64 k) ∧ greatS r u = (r.rows.drop k).any fun x => decide (15 < x.deg.length)) r.rows.length
    ⟨0, by simp, Nat.zero_le _, by (and_intros <;> first | rfl | (simp only [cRun, go_sem, simprocAttr]; done) | (simp only [cRun, go_sem, simprocAttr]; rfl)), by simpa using hg⟩ ?_)
  rintro n f H ⟨k, rfl, hk, ⟨h2, h5⟩, hr⟩
  by_cases hlt : k < r.rows.length
  · obtain ⟨x, hx⟩ : ∃ x, r.rows[k]? = some x := ⟨_, List.getElem?_eq_getElem hlt⟩
    rw [drop_cons hx, List.any_cons] at hr
    repeat' (first | (with_reducible refine sk ?_; intro K hK) | ((with_reducible first | refine rg (h := ?_) | refine nx ?_); try simp (disch := omega) only [h2, h5, hx, cRun, cRow,go_sem, simprocAttr]) | (with_reducible refine bk ?_) | ((with_reducible refine' cE ?hv ?_ ?_); (case hv => first | rfl | (simp only [h2, h5, hx, cRun, cRow,go_sem, simprocAttr]; rfl)); all_goals (intro hc; (try simp only [go_sem, simprocAttr] at hc); try (exfalso; omega))) | ((with_reducible first | refine grdS_split ?_ ?_ | refine lkG_split ?_ ?_) <;> intro hg <;> (try simp (disch := omega) only [hg, h2, h5, hx, cRun, cRow,go_sem, simprocAttr]) <;> (try simp only [go_sem, simprocAttr] at hg) <;> (try (exfalso; omega))) | ((with_reducible refine fe ?_); refine ⟨_, (by simp only [Try.f14, h2, h5, hx, cRun, cRow,go_sem, simprocAttr]; rfl), ?_⟩; first | rfl | (try simp only [h2, h5, hx, cRun, cRow,go_sem, simprocAttr, seval])) | with_reducible intro (ep : Nat → Nat) | with_reducible apply_assumption -exfalso -symm only [*])
    · rw [hr, decide_eq_true (by omega)]; rfl
    · refine ⟨r.rows.length - (k + 1), by omega, k + 1, rfl, by omega, rfl, ?_⟩
      rw [hr, decide_eq_false (by omega)]; rfl
  · repeat' (first | (with_reducible refine sk ?_; intro K hK) | ((with_reducible first | refine rg (h := ?_) | refine nx ?_); try simp (disch := omega) only [h2, h5, cRun,go_sem, simprocAttr]) | (with_reducible refine bk ?_) | ((with_reducible refine' cE ?hv ?_ ?_); (case hv => first | rfl | (simp only [h2, h5, cRun,go_sem, simprocAttr]; rfl)); all_goals (intro hc; (try simp only [go_sem, simprocAttr] at hc); try (exfalso; omega))) | ((with_reducible first | refine grdS_split ?_ ?_ | refine lkG_split ?_ ?_) <;> intro hg <;> (try simp (disch := omega) only [hg, h2, h5, cRun,go_sem, simprocAttr]) <;> (try simp only [go_sem, simprocAttr] at hg) <;> (try (exfalso; omega))) | ((with_reducible refine fe ?_); refine ⟨_, (by simp only [Try.f14, h2, h5, cRun,go_sem, simprocAttr]; rfl), ?_⟩; first | rfl | (try simp only [h2, h5, cRun,go_sem, simprocAttr, seval])) | with_reducible intro (ep : Nat → Nat) | with_reducible apply_assumption -exfalso -symm only [*])
    rw [hr, drop_none (by omega)]; rfl
end Cp
namespace Cp
open Go Go.Proofs
set_option maxRecDepth 10000
theorem plus_ok (a b : Span) (h : (-1000000000000 ≤ a.lo ∧ a.lo ≤ 1000000000000) ∧ (-1000000000000 ≤ a.hi ∧ a.hi ≤ 1000000000000) ∧ (-1000000000000 ≤ b.lo ∧ b.lo ≤ 1000000000000) ∧ (-1000000000000 ≤ b.hi ∧ b.hi ≤ 1000000000000)) :
  PureC Try.prog 74 [encSpan a, .lst 2 [[.int .i64 b.lo, .int .i64 b.hi]]] (encSpan ⟨a.lo + b.lo, a.hi + b.hi⟩) := by
 refine PureC_of (fn := Try.f74) tabOK (by kernel_rfl) rfl (by kernel_rfl) (by simp [Try.f74]) (by simp [noids, noid, noidss, go_sem, encSpan]) (by first | rfl | simp [noids, noid, noidss, go_sem, encSpan]) ?_
 intro X hX0 hXs
 repeat' (first | (with_reducible refine sk ?_; intro K hK) | ((with_reducible first | refine rg (md := { base := 0, own := [2] }) (h := ?_) | refine rgS [4, 6] (md := { base := 0, own := [2] }) (h := ?_) | refine nx ?_); try simp (disch := omega) only [encSpan,go_sem, simprocAttr]) | (with_reducible refine bk ?_) | ((with_reducible refine' cE ?hv ?_ ?_); (case hv => first | rfl | (simp only [encSpan,go_sem, simprocAttr]; rfl)); all_goals (intro hc; (try simp only [go_sem, simprocAttr] at hc); try (exfalso; omega))) | ((with_reducible refine fe ?_); refine ⟨_, (by simp only [Try.f74, encSpan,go_sem, simprocAttr]; rfl), ?_⟩; first | rfl | (try simp only [encSpan,go_sem, simprocAttr, seval])) | with_reducible intro (ep : Nat → Nat) | with_reducible apply_assumption -exfalso -symm only [*])
 refine AW_range tabOK 1 (fun k f H => f 7 = .lst 2 [[.int .i64 b.lo, .int .i64 b.hi]] ∧ ∃ e2 e4 x y, f 2 = .ptr 2 e2 2 0 0 ∧ H 2 = some (e2, .arr 2 [[.int .i64 x, .int .i64 y]]) ∧ f 4 = .ptr 4 e4 2 0 0 ∧ H 4 = some (e4, .arr 2 [[.int .i64 0, .int .i64 0]]) ∧ x = a.lo + k * b.lo ∧ y = a.hi + k * b.hi) (by omega) (by rw [hXs]; decide) (by decide) (by simp only [go_sem, simprocAttr]) (by (first | rfl | (simp only [go_sem, simprocAttr]; done) | (simp only [go_sem, simprocAttr]; rfl)))
  ⟨by (first | rfl | (simp only [go_sem, simprocAttr]; done) | (simp only [go_sem, simprocAttr]; rfl)), _, _, a.lo, a.hi, by (first | rfl | (simp only [go_sem, simprocAttr]; done) | (simp only [go_sem, simprocAttr]; rfl)), by (first | rfl | (simp only [go_sem, simprocAttr]; done) | (simp only [go_sem, simprocAttr]; rfl)), by (first | rfl | (simp only [go_sem, simprocAttr]; done) | (simp only [go_sem, simprocAttr]; rfl)), by (first | rfl | (simp only [go_sem, simprocAttr]; done) | (simp only [go_sem, simprocAttr]; rfl)), by simp, by simp⟩ ?_ ?_
 ·rintro k f H hk h9 h8 ⟨h7, e2, e4, x, y, h2, hH2, h4, hH4, hx, hy⟩
  obtain rfl : k = 0 := by omega
  simp only [Int.ofNat_zero, Int.zero_mul, Int.add_zero, Int.natCast_zero, Int.cast_ofNat_Int] at hx hy
  have hx' : x = a.lo := by simpa using hx
  have hy' : y = a.hi := by simpa using hy
  subst hx' hy'
  refine AW_keep [2, 4] ?_
  repeat' (first | (with_reducible refine sk ?_; intro K hK) | ((with_reducible first | refine rg (md := { base := 0, own := [2] }) (h := ?_) | refine rgS [4, 6] (md := { base := 0, own := [2] }) (h := ?_) | refine nx ?_); try simp (disch := omega) only [h2, h4, h7, h8, h9, hH2, hH4,go_sem, simprocAttr]) | (with_reducible refine bk ?_) | ((with_reducible refine' cE ?hv ?_ ?_); (case hv => first | rfl | (simp only [h2, h4, h7, h8, h9, hH2, hH4,go_sem, simprocAttr]; rfl)); all_goals (intro hc; (try simp only [go_sem, simprocAttr] at hc); try (exfalso; omega))) | ((with_reducible refine fe ?_); refine ⟨_, (by simp only [Try.f74, h2, h4, h7, h8, h9, hH2, hH4,go_sem, simprocAttr]; rfl), ?_⟩; first | rfl | (try simp only [h2, h4, h7, h8, h9, hH2, hH4,go_sem, simprocAttr, seval])) | with_reducible intro (ep : Nat → Nat) | with_reducible apply_assumption -exfalso -symm only [*])
  exact ⟨_, _, _, _, rfl, rfl, rfl, rfl, by simp, by simp⟩
 ·rintro f H h9 h8 ⟨h7, e2, e4, x, y, h2, hH2, h4, hH4, hx, hy⟩
  repeat' (first | (with_reducible refine sk ?_; intro K hK) | ((with_reducible first | refine rg (md := { base := 0, own := [2] }) (h := ?_) | refine rgS [4, 6] (md := { base := 0, own := [2] }) (h := ?_) | refine nx ?_); try simp (disch := omega) only [h2, h4, hH2, hH4, encSpan,go_sem, simprocAttr]) | (with_reducible refine bk ?_) | ((with_reducible refine' cE ?hv ?_ ?_); (case hv => first | rfl | (simp only [h2, h4, hH2, hH4, encSpan,go_sem, simprocAttr]; rfl)); all_goals (intro hc; (try simp only [go_sem, simprocAttr] at hc); try (exfalso; omega))) | ((with_reducible refine fe ?_); refine ⟨_, (by simp only [Try.f74, h2, h4, hH2, hH4, encSpan,go_sem, simprocAttr]; rfl), ?_⟩; first | rfl | (try simp only [h2, h4, hH2, hH4, encSpan,go_sem, simprocAttr, seval])) | with_reducible intro (ep : Nat → Nat) | with_reducible apply_assumption -exfalso -symm only [*])
  simp [hx, hy]
theorem times_ok (a : Span) (n : Int) (h : (-1000000000 ≤ a.lo ∧ a.lo ≤ 1000000000) ∧ (-1000000000 ≤ a.hi ∧ a.hi ≤ 1000000000) ∧ 0 ≤ n ∧ n ≤ 1000000000) :
  PureC Try.prog 76 [encSpan a, .int .i64 n] (encSpan ⟨a.lo * n, a.hi * n⟩) := by
 have b1 := mul_bnd (a := a.lo) (q := n) (A := 1000000000) (B := 1000000000) (C := 1000000000) (by omega) (by omega) (by omega) (by omega) (by omega) (by omega)
 have b2 := mul_bnd (a := a.hi) (q := n) (A := 1000000000) (B := 1000000000) (C := 1000000000) (by omega) (by omega) (by omega) (by omega) (by omega) (by omega)
 refine PureC_of (fn := Try.f76) tabOK (by kernel_rfl) rfl (by kernel_rfl) (by simp [Try.f76]) (by simp [noids, noid, noidss, go_sem, encSpan]) (by first | rfl | simp [noids, noid, noidss, go_sem, encSpan]) ?_
 intro X hX0 hXs
 repeat' (first | (with_reducible refine sk ?_; intro K hK) | ((with_reducible first | refine rg (h := ?_) | refine rgS [4] (h := ?_) | refine nx ?_); try simp (disch := omega) only [encSpan,go_sem, simprocAttr]) | (with_reducible refine bk ?_) | ((with_reducible refine' cE ?hv ?_ ?_); (case hv => first | rfl | (simp only [encSpan,go_sem, simprocAttr]; rfl)); all_goals (intro hc; (try simp only [go_sem, simprocAttr] at hc); try (exfalso; omega))) | ((with_reducible refine fe ?_); refine ⟨_, (by simp only [Try.f76, encSpan,go_sem, simprocAttr]; rfl), ?_⟩; first | rfl | (try simp only [encSpan,go_sem, simprocAttr, seval])) | with_reducible intro (ep : Nat → Nat) | with_reducible apply_assumption -exfalso -symm only [*])
def Pts (H : Hp) (fp : Val) (cs : List Val) : Prop := fp = .pim cs ∨ ∃ k e n, fp = .ptr k e n 0 0 ∧ frzH H k = some (e, .fro n [cs])
theorem reads_look (r : RunT) (hF : RunF r) (rest : List Val) (H : Hp) (fp : Val) (hp : Pts H fp (cRun r ++ rest)) (i : Nat) (hi : i < r.cpls.length) (m last lag : Int) (hl : 1 ≤ last ∧ last ≤ r.rows.length) (hm : 1 ≤ m ∧ m ≤ r.rows.length) (hg : 0 ≤ lag ∧ lag ≤ 10) :
  LookC Try.prog 91 [.int .i64 lag, .pim [fp], .pim [.int .i64 m], .pim [.int .i64 last], .pim [.int .i64 i]] H (.int .i64 (readAt r i (min (m + lag) last))) := by
 have hrows := hF.rows
 have hcl := hF.cpls
 obtain ⟨x, d, hx, hd, hrd, hd1, hd2⟩ := readAt_ok hF hi (row := min (m + lag) last) (by omega) (by omega)
 have hge : 0 ≤ min (m + lag) last - 1 := by omega
 refine LookC_of (fn := Try.f91) tabOK (by kernel_rfl) rfl (by kernel_rfl) (by simp [Try.f91]) rfl ?_
 intro X hX0 hXs
 rcases hp with rfl | ⟨k, e, n, rfl, hk⟩
 ·repeat' (first | (with_reducible refine sk ?_; intro K hK) | ((with_reducible first | refine rg (h := ?_) | refine nx ?_); try simp (disch := omega) only [hx, hd, hrd, hge, cRun, cRow,go_sem, simprocAttr]) | (with_reducible refine bk ?_) | ((with_reducible refine' cE ?hv ?_ ?_); (case hv => first | rfl | (simp only [hx, hd, hrd, hge, cRun, cRow,go_sem, simprocAttr]; rfl)); all_goals (intro hc; (try simp only [go_sem, simprocAttr] at hc); try (exfalso; omega))) | ((with_reducible refine fe ?_); refine ⟨_, (by simp only [Try.f91, hx, hd, hrd, hge, cRun, cRow,go_sem, simprocAttr]; rfl), ?_⟩; first | rfl | (try simp only [hx, hd, hrd, hge, cRun, cRow,go_sem, simprocAttr, seval])) | with_reducible intro (ep : Nat → Nat) | with_reducible apply_assumption -exfalso -symm only [*])
 ·have hk' : frz1 (H k) = some (e, .fro n [cRun r ++ rest]) := hk
  repeat' (first | (with_reducible refine sk ?_; intro K hK) | ((with_reducible first | refine rg (h := ?_) | refine nx ?_); try simp (disch := omega) only [hk', hx, hd, hrd, hge, cRun, cRow,go_sem, simprocAttr]) | (with_reducible refine bk ?_) | ((with_reducible refine' cE ?hv ?_ ?_); (case hv => first | rfl | (simp only [hk', hx, hd, hrd, hge, cRun, cRow,go_sem, simprocAttr]; rfl)); all_goals (intro hc; (try simp only [go_sem, simprocAttr] at hc); try (exfalso; omega))) | ((with_reducible refine fe ?_); refine ⟨_, (by simp only [Try.f91, hk', hx, hd, hrd, hge, cRun, cRow,go_sem, simprocAttr]; rfl), ?_⟩; first | rfl | (try simp only [hk', hx, hd, hrd, hge, cRun, cRow,go_sem, simprocAttr, seval])) | with_reducible intro (ep : Nat → Nat) | with_reducible apply_assumption -exfalso -symm only [*])
end Cp
