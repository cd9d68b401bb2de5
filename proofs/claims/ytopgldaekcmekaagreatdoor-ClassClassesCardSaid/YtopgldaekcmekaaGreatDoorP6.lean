/- Rules, facts and contracts that the statement's proof leans on. Conditions: none. -/
import Derived.Test.YtopgldaekcmekaaGreatDoorP5
set_option linter.unusedVariables false
set_option linter.unusedSimpArgs false
set_option linter.unusedSectionVars false
namespace Cp
open Go Go.Proofs
instance : Tb Tryz.prog tab := ⟨tabOK, mix⟩
@[go_sem] theorem tab_1 : tab 1 = some { kind := .func, sz := 1, bytes := 8, zero := .nilf, plain := false } := rfl
@[go_sem] theorem tab_2 : tab 2 = some { kind := .int .i64, sz := 1, bytes := 8, zero := .int .i64 0, plain := false } := rfl
@[go_sem] theorem tab_3 : tab 3 = some { kind := .int .i64, sz := 1, bytes := 8, zero := .int .i64 0, plain := false } := rfl
@[go_sem] theorem tab_4 : tab 4 = some { kind := .bool, sz := 1, bytes := 1, zero := .bool false, plain := false } := rfl
@[go_sem] theorem tab_5 : tab 5 = some { kind := .int .u8, sz := 1, bytes := 1, zero := .int .u8 0, plain := false } := rfl
@[go_sem] theorem tab_6 : tab 6 = some { kind := .int .u8, sz := 1, bytes := 1, zero := .int .u8 0, plain := false } := rfl
@[go_sem] theorem tab_7 : tab 7 = some { kind := .struct [(0, 2), (1, 3), (2, 4), (3, 6)], sz := 4, bytes := 24, zero := .agg [.int .i64 0, .int .i64 0, .bool false, .int .u8 0], plain := false } := rfl
@[go_sem] theorem tab_9 : tab 9 = some { kind := .str, sz := 1, bytes := 16, zero := .str ByteArray.empty, plain := false } := rfl
@[go_sem] theorem tab_12 : tab 12 = some { kind := .int .u64, sz := 1, bytes := 8, zero := .int .u64 0, plain := false } := rfl
@[go_sem] theorem tab_13 : tab 13 = some { kind := .struct [(0, 9), (1, 12)], sz := 2, bytes := 24, zero := .agg [.str ByteArray.empty, .int .u64 0], plain := false } := rfl
@[go_sem] theorem tab_14 : tab 14 = some { kind := .struct [(0, 9), (1, 12)], sz := 2, bytes := 24, zero := .agg [.str ByteArray.empty, .int .u64 0], plain := false } := rfl
@[go_sem] theorem tab_15 : tab 15 = some { kind := .ptr, sz := 1, bytes := 8, zero := .nilp, plain := false } := rfl
@[go_sem] theorem tab_16 : tab 16 = some { kind := .ptr, sz := 1, bytes := 8, zero := .nilp, plain := false } := rfl
@[go_sem] theorem tab_17 : tab 17 = some { kind := .ptr, sz := 1, bytes := 8, zero := .nilp, plain := false } := rfl
@[go_sem] theorem tab_18 : tab 18 = some { kind := .struct [(0, 17)], sz := 1, bytes := 8, zero := .agg [.nilp], plain := false } := rfl
@[go_sem] theorem tab_19 : tab 19 = some { kind := .struct [(0, 17)], sz := 1, bytes := 8, zero := .agg [.nilp], plain := false } := rfl
@[go_sem] theorem tab_22 : tab 22 = some { kind := .slice 139, sz := 1, bytes := 24, zero := .nils, plain := false } := rfl
@[go_sem] theorem tab_23 : tab 23 = some { kind := .slice 136, sz := 1, bytes := 24, zero := .nils, plain := false } := rfl
@[go_sem] theorem tab_24 : tab 24 = some { kind := .slice 126, sz := 1, bytes := 24, zero := .nils, plain := false } := rfl
@[go_sem] theorem tab_25 : tab 25 = some { kind := .struct [(0, 3), (1, 3)], sz := 2, bytes := 16, zero := .agg [.int .i64 0, .int .i64 0], plain := true } := rfl
@[go_sem] theorem tab_26 : tab 26 = some { kind := .struct [(0, 3), (1, 3)], sz := 2, bytes := 16, zero := .agg [.int .i64 0, .int .i64 0], plain := true } := rfl
@[go_sem] theorem tab_28 : tab 28 = some { kind := .struct [(0, 3), (1, 22), (2, 23), (3, 24), (4, 26)], sz := 6, bytes := 96, zero := .agg [.int .i64 0, .nils, .nils, .nils, .int .i64 0, .int .i64 0], plain := false } := rfl
@[go_sem] theorem tab_29 : tab 29 = some { kind := .slice 66, sz := 1, bytes := 24, zero := .nils, plain := false } := rfl
@[go_sem] theorem tab_31 : tab 31 = some { kind := .struct [(0, 29), (1, 3), (2, 3), (3, 26), (5, 3)], sz := 6, bytes := 64, zero := .agg [.nils, .int .i64 0, .int .i64 0, .int .i64 0, .int .i64 0, .int .i64 0], plain := false } := rfl
@[go_sem] theorem tab_32 : tab 32 = some { kind := .array 6 3, sz := 6, bytes := 48, zero := .agg [.int .i64 0, .int .i64 0, .int .i64 0, .int .i64 0, .int .i64 0, .int .i64 0], plain := true } := rfl
@[go_sem] theorem tab_33 : tab 33 = some { kind := .slice 70, sz := 1, bytes := 24, zero := .nils, plain := false } := rfl
@[go_sem] theorem tab_35 : tab 35 = some { kind := .struct [(0, 3), (1, 28), (7, 31), (13, 26), (15, 3), (16, 32), (22, 33)], sz := 23, bytes := 264, zero := .agg [.int .i64 0, .int .i64 0, .nils, .nils, .nils, .int .i64 0, .int .i64 0, .nils, .int .i64 0, .int .i64 0, .int .i64 0, .int .i64 0, .int .i64 0, .int .i64 0, .int .i64 0, .int .i64 0, .int .i64 0, .int .i64 0, .int .i64 0, .int .i64 0, .int .i64 0, .int .i64 0, .nils], plain := false } := rfl
@[go_sem] theorem tab_36 : tab 36 = some { kind := .func, sz := 1, bytes := 8, zero := .nilf, plain := false } := rfl
@[go_sem] theorem tab_37 : tab 37 = some { kind := .func, sz := 1, bytes := 8, zero := .nilf, plain := false } := rfl
@[go_sem] theorem tab_38 : tab 38 = some { kind := .int .i64, sz := 1, bytes := 8, zero := .int .i64 0, plain := false } := rfl
@[go_sem] theorem tab_40 : tab 40 = some { kind := .func, sz := 1, bytes := 8, zero := .nilf, plain := false } := rfl
@[go_sem] theorem tab_42 : tab 42 = some { kind := .func, sz := 1, bytes := 8, zero := .nilf, plain := false } := rfl
@[go_sem] theorem tab_43 : tab 43 = some { kind := .slice 5, sz := 1, bytes := 24, zero := .nils, plain := false } := rfl
@[go_sem] theorem tab_45 : tab 45 = some { kind := .func, sz := 1, bytes := 8, zero := .nilf, plain := false } := rfl
@[go_sem] theorem tab_47 : tab 47 = some { kind := .func, sz := 1, bytes := 8, zero := .nilf, plain := false } := rfl
@[go_sem] theorem tab_48 : tab 48 = some { kind := .func, sz := 1, bytes := 8, zero := .nilf, plain := false } := rfl
@[go_sem] theorem tab_49 : tab 49 = some { kind := .func, sz := 1, bytes := 8, zero := .nilf, plain := false } := rfl
@[go_sem] theorem tab_50 : tab 50 = some { kind := .func, sz := 1, bytes := 8, zero := .nilf, plain := false } := rfl
@[go_sem] theorem tab_51 : tab 51 = some { kind := .func, sz := 1, bytes := 8, zero := .nilf, plain := false } := rfl
@[go_sem] theorem tab_52 : tab 52 = some { kind := .struct [(0, 5), (1, 26)], sz := 3, bytes := 24, zero := .agg [.int .u8 0, .int .i64 0, .int .i64 0], plain := true } := rfl
@[go_sem] theorem tab_53 : tab 53 = some { kind := .struct [(0, 5), (1, 26)], sz := 3, bytes := 24, zero := .agg [.int .u8 0, .int .i64 0, .int .i64 0], plain := true } := rfl
@[go_sem] theorem tab_58 : tab 58 = some { kind := .func, sz := 1, bytes := 8, zero := .nilf, plain := false } := rfl
@[go_sem] theorem tab_60 : tab 60 = some { kind := .func, sz := 1, bytes := 8, zero := .nilf, plain := false } := rfl
@[go_sem] theorem tab_61 : tab 61 = some { kind := .func, sz := 1, bytes := 8, zero := .nilf, plain := false } := rfl
@[go_sem] theorem tab_62 : tab 62 = some { kind := .func, sz := 1, bytes := 8, zero := .nilf, plain := false } := rfl
@[go_sem] theorem tab_63 : tab 63 = some { kind := .slice 122, sz := 1, bytes := 24, zero := .nils, plain := false } := rfl
@[go_sem] theorem tab_64 : tab 64 = some { kind := .ptr, sz := 1, bytes := 8, zero := .nilp, plain := false } := rfl
@[go_sem] theorem tab_65 : tab 65 = some { kind := .struct [(0, 3), (1, 3)], sz := 2, bytes := 16, zero := .agg [.int .i64 0, .int .i64 0], plain := true } := rfl
@[go_sem] theorem tab_66 : tab 66 = some { kind := .struct [(0, 3), (1, 3)], sz := 2, bytes := 16, zero := .agg [.int .i64 0, .int .i64 0], plain := true } := rfl
@[go_sem] theorem tab_67 : tab 67 = some { kind := .func, sz := 1, bytes := 8, zero := .nilf, plain := false } := rfl
@[go_sem] theorem tab_68 : tab 68 = some { kind := .func, sz := 1, bytes := 8, zero := .nilf, plain := false } := rfl
@[go_sem] theorem tab_69 : tab 69 = some { kind := .struct [(0, 3), (1, 5), (2, 3), (3, 26)], sz := 5, bytes := 40, zero := .agg [.int .i64 0, .int .u8 0, .int .i64 0, .int .i64 0, .int .i64 0], plain := true } := rfl
@[go_sem] theorem tab_70 : tab 70 = some { kind := .struct [(0, 3), (1, 5), (2, 3), (3, 26)], sz := 5, bytes := 40, zero := .agg [.int .i64 0, .int .u8 0, .int .i64 0, .int .i64 0, .int .i64 0], plain := true } := rfl
@[go_sem] theorem tab_71 : tab 71 = some { kind := .func, sz := 1, bytes := 8, zero := .nilf, plain := false } := rfl
@[go_sem] theorem tab_72 : tab 72 = some { kind := .func, sz := 1, bytes := 8, zero := .nilf, plain := false } := rfl
@[go_sem] theorem tab_73 : tab 73 = some { kind := .ptr, sz := 1, bytes := 8, zero := .nilp, plain := false } := rfl
@[go_sem] theorem tab_74 : tab 74 = some { kind := .func, sz := 1, bytes := 8, zero := .nilf, plain := false } := rfl
@[go_sem] theorem tab_75 : tab 75 = some { kind := .slice 3, sz := 1, bytes := 24, zero := .nils, plain := false } := rfl
@[go_sem] theorem tab_76 : tab 76 = some { kind := .func, sz := 1, bytes := 8, zero := .nilf, plain := false } := rfl
@[go_sem] theorem tab_77 : tab 77 = some { kind := .map 5 4, sz := 1, bytes := 8, zero := .nilm, plain := false } := rfl
@[go_sem] theorem tab_79 : tab 79 = some { kind := .func, sz := 1, bytes := 8, zero := .nilf, plain := false } := rfl
@[go_sem] theorem tab_80 : tab 80 = some { kind := .func, sz := 1, bytes := 8, zero := .nilf, plain := false } := rfl
@[go_sem] theorem tab_81 : tab 81 = some { kind := .func, sz := 1, bytes := 8, zero := .nilf, plain := false } := rfl
@[go_sem] theorem tab_82 : tab 82 = some { kind := .func, sz := 1, bytes := 8, zero := .nilf, plain := false } := rfl
@[go_sem] theorem tab_83 : tab 83 = some { kind := .ptr, sz := 1, bytes := 8, zero := .nilp, plain := false } := rfl
@[go_sem] theorem tab_85 : tab 85 = some { kind := .func, sz := 1, bytes := 8, zero := .nilf, plain := false } := rfl
@[go_sem] theorem tab_86 : tab 86 = some { kind := .iface, sz := 1, bytes := 16, zero := .nili, plain := false } := rfl
@[go_sem] theorem tab_87 : tab 87 = some { kind := .iface, sz := 1, bytes := 16, zero := .nili, plain := false } := rfl
@[go_sem] theorem tab_88 : tab 88 = some { kind := .func, sz := 1, bytes := 8, zero := .nilf, plain := false } := rfl
@[go_sem] theorem tab_89 : tab 89 = some { kind := .func, sz := 1, bytes := 8, zero := .nilf, plain := false } := rfl
@[go_sem] theorem tab_91 : tab 91 = some { kind := .func, sz := 1, bytes := 8, zero := .nilf, plain := false } := rfl
@[go_sem] theorem tab_92 : tab 92 = some { kind := .map 131 3, sz := 1, bytes := 8, zero := .nilm, plain := false } := rfl
@[go_sem] theorem tab_93 : tab 93 = some { kind := .struct [(0, 35), (23, 92)], sz := 24, bytes := 272, zero := .agg [.int .i64 0, .int .i64 0, .nils, .nils, .nils, .int .i64 0, .int .i64 0, .nils, .int .i64 0, .int .i64 0, .int .i64 0, .int .i64 0, .int .i64 0, .int .i64 0, .int .i64 0, .int .i64 0, .int .i64 0, .int .i64 0, .int .i64 0, .int .i64 0, .int .i64 0, .int .i64 0, .nils, .nilm], plain := false } := rfl
@[go_sem] theorem tab_94 : tab 94 = some { kind := .struct [(0, 35), (23, 92)], sz := 24, bytes := 272, zero := .agg [.int .i64 0, .int .i64 0, .nils, .nils, .nils, .int .i64 0, .int .i64 0, .nils, .int .i64 0, .int .i64 0, .int .i64 0, .int .i64 0, .int .i64 0, .int .i64 0, .int .i64 0, .int .i64 0, .int .i64 0, .int .i64 0, .int .i64 0, .int .i64 0, .int .i64 0, .int .i64 0, .nils, .nilm], plain := false } := rfl
@[go_sem] theorem tab_95 : tab 95 = some { kind := .func, sz := 1, bytes := 8, zero := .nilf, plain := false } := rfl
@[go_sem] theorem tab_96 : tab 96 = some { kind := .func, sz := 1, bytes := 8, zero := .nilf, plain := false } := rfl
@[go_sem] theorem tab_97 : tab 97 = some { kind := .func, sz := 1, bytes := 8, zero := .nilf, plain := false } := rfl
@[go_sem] theorem tab_98 : tab 98 = some { kind := .func, sz := 1, bytes := 8, zero := .nilf, plain := false } := rfl
@[go_sem] theorem tab_99 : tab 99 = some { kind := .func, sz := 1, bytes := 8, zero := .nilf, plain := false } := rfl
@[go_sem] theorem tab_101 : tab 101 = some { kind := .func, sz := 1, bytes := 8, zero := .nilf, plain := false } := rfl
@[go_sem] theorem tab_102 : tab 102 = some { kind := .func, sz := 1, bytes := 8, zero := .nilf, plain := false } := rfl
@[go_sem] theorem tab_103 : tab 103 = some { kind := .struct [(0, 26), (2, 4)], sz := 3, bytes := 24, zero := .agg [.int .i64 0, .int .i64 0, .bool false], plain := true } := rfl
@[go_sem] theorem tab_104 : tab 104 = some { kind := .struct [(0, 26), (2, 4)], sz := 3, bytes := 24, zero := .agg [.int .i64 0, .int .i64 0, .bool false], plain := true } := rfl
@[go_sem] theorem tab_106 : tab 106 = some { kind := .func, sz := 1, bytes := 8, zero := .nilf, plain := false } := rfl
@[go_sem] theorem tab_108 : tab 108 = some { kind := .func, sz := 1, bytes := 8, zero := .nilf, plain := false } := rfl
@[go_sem] theorem tab_109 : tab 109 = some { kind := .func, sz := 1, bytes := 8, zero := .nilf, plain := false } := rfl
@[go_sem] theorem tab_110 : tab 110 = some { kind := .func, sz := 1, bytes := 8, zero := .nilf, plain := false } := rfl
@[go_sem] theorem tab_111 : tab 111 = some { kind := .func, sz := 1, bytes := 8, zero := .nilf, plain := false } := rfl
@[go_sem] theorem tab_112 : tab 112 = some { kind := .func, sz := 1, bytes := 8, zero := .nilf, plain := false } := rfl
@[go_sem] theorem tab_113 : tab 113 = some { kind := .func, sz := 1, bytes := 8, zero := .nilf, plain := false } := rfl
@[go_sem] theorem tab_114 : tab 114 = some { kind := .func, sz := 1, bytes := 8, zero := .nilf, plain := false } := rfl
@[go_sem] theorem tab_116 : tab 116 = some { kind := .slice 120, sz := 1, bytes := 24, zero := .nils, plain := false } := rfl
@[go_sem] theorem tab_117 : tab 117 = some { kind := .func, sz := 1, bytes := 8, zero := .nilf, plain := false } := rfl
@[go_sem] theorem tab_118 : tab 118 = some { kind := .func, sz := 1, bytes := 8, zero := .nilf, plain := false } := rfl
@[go_sem] theorem tab_119 : tab 119 = some { kind := .struct [(0, 3), (1, 5), (2, 3), (3, 5)], sz := 4, bytes := 32, zero := .agg [.int .i64 0, .int .u8 0, .int .i64 0, .int .u8 0], plain := true } := rfl
@[go_sem] theorem tab_120 : tab 120 = some { kind := .struct [(0, 3), (1, 5), (2, 3), (3, 5)], sz := 4, bytes := 32, zero := .agg [.int .i64 0, .int .u8 0, .int .i64 0, .int .u8 0], plain := true } := rfl
@[go_sem] theorem tab_121 : tab 121 = some { kind := .func, sz := 1, bytes := 8, zero := .nilf, plain := false } := rfl
@[go_sem] theorem tab_122 : tab 122 = some { kind := .int .u32, sz := 1, bytes := 4, zero := .int .u32 0, plain := false } := rfl
@[go_sem] theorem tab_123 : tab 123 = some { kind := .func, sz := 1, bytes := 8, zero := .nilf, plain := false } := rfl
@[go_sem] theorem tab_124 : tab 124 = some { kind := .func, sz := 1, bytes := 8, zero := .nilf, plain := false } := rfl
@[go_sem] theorem tab_125 : tab 125 = some { kind := .struct [(0, 75), (1, 3)], sz := 2, bytes := 32, zero := .agg [.nils, .int .i64 0], plain := false } := rfl
@[go_sem] theorem tab_126 : tab 126 = some { kind := .struct [(0, 75), (1, 3)], sz := 2, bytes := 32, zero := .agg [.nils, .int .i64 0], plain := false } := rfl
@[go_sem] theorem tab_127 : tab 127 = some { kind := .slice 87, sz := 1, bytes := 24, zero := .nils, plain := false } := rfl
@[go_sem] theorem tab_128 : tab 128 = some { kind := .func, sz := 1, bytes := 8, zero := .nilf, plain := false } := rfl
@[go_sem] theorem tab_129 : tab 129 = some { kind := .func, sz := 1, bytes := 8, zero := .nilf, plain := false } := rfl
@[go_sem] theorem tab_130 : tab 130 = some { kind := .struct [(0, 5), (1, 3)], sz := 2, bytes := 16, zero := .agg [.int .u8 0, .int .i64 0], plain := true } := rfl
@[go_sem] theorem tab_131 : tab 131 = some { kind := .struct [(0, 5), (1, 3)], sz := 2, bytes := 16, zero := .agg [.int .u8 0, .int .i64 0], plain := true } := rfl
@[go_sem] theorem tab_133 : tab 133 = some { kind := .struct [], sz := 0, bytes := 0, zero := .agg [], plain := true } := rfl
@[go_sem] theorem tab_134 : tab 134 = some { kind := .func, sz := 1, bytes := 8, zero := .nilf, plain := false } := rfl
@[go_sem] theorem tab_135 : tab 135 = some { kind := .struct [(0, 3), (1, 26), (3, 26), (5, 3)], sz := 6, bytes := 48, zero := .agg [.int .i64 0, .int .i64 0, .int .i64 0, .int .i64 0, .int .i64 0, .int .i64 0], plain := true } := rfl
@[go_sem] theorem tab_136 : tab 136 = some { kind := .struct [(0, 3), (1, 26), (3, 26), (5, 3)], sz := 6, bytes := 48, zero := .agg [.int .i64 0, .int .i64 0, .int .i64 0, .int .i64 0, .int .i64 0, .int .i64 0], plain := true } := rfl
@[go_sem] theorem tab_138 : tab 138 = some { kind := .struct [(0, 3), (1, 3)], sz := 2, bytes := 16, zero := .agg [.int .i64 0, .int .i64 0], plain := true } := rfl
@[go_sem] theorem tab_139 : tab 139 = some { kind := .struct [(0, 3), (1, 3)], sz := 2, bytes := 16, zero := .agg [.int .i64 0, .int .i64 0], plain := true } := rfl
@[go_sem] theorem tab_140 : tab 140 = some { kind := .func, sz := 1, bytes := 8, zero := .nilf, plain := false } := rfl
@[go_sem] theorem tab_144 : tab 144 = some { kind := .ptr, sz := 1, bytes := 8, zero := .nilp, plain := false } := rfl
@[go_sem] theorem tab_146 : tab 146 = some { kind := .func, sz := 1, bytes := 8, zero := .nilf, plain := false } := rfl
@[go_sem] theorem tab_147 : tab 147 = some { kind := .func, sz := 1, bytes := 8, zero := .nilf, plain := false } := rfl
@[go_sem] theorem tab_150 : tab 150 = some { kind := .struct [(0, 3), (1, 3), (2, 26)], sz := 4, bytes := 32, zero := .agg [.int .i64 0, .int .i64 0, .int .i64 0, .int .i64 0], plain := true } := rfl
@[go_sem] theorem tab_151 : tab 151 = some { kind := .slice 155, sz := 1, bytes := 24, zero := .nils, plain := false } := rfl
@[go_sem] theorem tab_153 : tab 153 = some { kind := .func, sz := 1, bytes := 8, zero := .nilf, plain := false } := rfl
@[go_sem] theorem tab_155 : tab 155 = some { kind := .struct [(0, 5), (1, 153)], sz := 2, bytes := 16, zero := .agg [.int .u8 0, .nilf], plain := false } := rfl
@[go_sem] theorem tab_156 : tab 156 = some { kind := .map 3 5, sz := 1, bytes := 8, zero := .nilm, plain := false } := rfl
@[go_sem] theorem tab_157 : tab 157 = some { kind := .func, sz := 1, bytes := 8, zero := .nilf, plain := false } := rfl
@[go_sem] theorem tab_158 : tab 158 = some { kind := .func, sz := 1, bytes := 8, zero := .nilf, plain := false } := rfl
@[go_sem] theorem tab_159 : tab 159 = some { kind := .func, sz := 1, bytes := 8, zero := .nilf, plain := false } := rfl
@[go_sem] theorem tab_160 : tab 160 = some { kind := .func, sz := 1, bytes := 8, zero := .nilf, plain := false } := rfl
@[go_sem] theorem tab_161 : tab 161 = some { kind := .func, sz := 1, bytes := 8, zero := .nilf, plain := false } := rfl
@[go_sem] theorem tab_162 : tab 162 = some { kind := .func, sz := 1, bytes := 8, zero := .nilf, plain := false } := rfl
@[go_sem] theorem tab_164 : tab 164 = some { kind := .func, sz := 1, bytes := 8, zero := .nilf, plain := false } := rfl
@[go_sem] theorem tab_165 : tab 165 = some { kind := .struct [(0, 164)], sz := 1, bytes := 8, zero := .agg [.nilf], plain := false } := rfl
@[go_sem] theorem tab_166 : tab 166 = some { kind := .array 2 165, sz := 2, bytes := 16, zero := .agg [.nilf, .nilf], plain := false } := rfl
@[go_sem] theorem tab_167 : tab 167 = some { kind := .slice 104, sz := 1, bytes := 24, zero := .nils, plain := false } := rfl
@[go_sem] theorem tab_176 : tab 176 = some { kind := .array 61 26, sz := 122, bytes := 976, zero := .agg [.int .i64 0, .int .i64 0, .int .i64 0, .int .i64 0, .int .i64 0, .int .i64 0, .int .i64 0, .int .i64 0, .int .i64 0, .int .i64 0, .int .i64 0, .int .i64 0, .int .i64 0, .int .i64 0, .int .i64 0, .int .i64 0, .int .i64 0, .int .i64 0, .int .i64 0, .int .i64 0, .int .i64 0, .int .i64 0, .int .i64 0, .int .i64 0, .int .i64 0, .int .i64 0, .int .i64 0, .int .i64 0, .int .i64 0, .int .i64 0, .int .i64 0, .int .i64 0, .int .i64 0, .int .i64 0, .int .i64 0, .int .i64 0, .int .i64 0, .int .i64 0, .int .i64 0, .int .i64 0, .int .i64 0, .int .i64 0, .int .i64 0, .int .i64 0, .int .i64 0, .int .i64 0, .int .i64 0, .int .i64 0, .int .i64 0, .int .i64 0, .int .i64 0, .int .i64 0, .int .i64 0, .int .i64 0, .int .i64 0, .int .i64 0, .int .i64 0, .int .i64 0, .int .i64 0, .int .i64 0, .int .i64 0, .int .i64 0, .int .i64 0, .int .i64 0, .int .i64 0, .int .i64 0, .int .i64 0, .int .i64 0, .int .i64 0, .int .i64 0, .int .i64 0, .int .i64 0, .int .i64 0, .int .i64 0, .int .i64 0, .int .i64 0, .int .i64 0, .int .i64 0, .int .i64 0, .int .i64 0, .int .i64 0, .int .i64 0, .int .i64 0, .int .i64 0, .int .i64 0, .int .i64 0, .int .i64 0, .int .i64 0, .int .i64 0, .int .i64 0, .int .i64 0, .int .i64 0, .int .i64 0, .int .i64 0, .int .i64 0, .int .i64 0, .int .i64 0, .int .i64 0, .int .i64 0, .int .i64 0, .int .i64 0, .int .i64 0, .int .i64 0, .int .i64 0, .int .i64 0, .int .i64 0, .int .i64 0, .int .i64 0, .int .i64 0, .int .i64 0, .int .i64 0, .int .i64 0, .int .i64 0, .int .i64 0, .int .i64 0, .int .i64 0, .int .i64 0, .int .i64 0, .int .i64 0, .int .i64 0, .int .i64 0, .int .i64 0], plain := true } := rfl
@[go_sem] theorem tab_177 : tab 177 = some { kind := .array 61 4, sz := 61, bytes := 61, zero := .agg [.bool false, .bool false, .bool false, .bool false, .bool false, .bool false, .bool false, .bool false, .bool false, .bool false, .bool false, .bool false, .bool false, .bool false, .bool false, .bool false, .bool false, .bool false, .bool false, .bool false, .bool false, .bool false, .bool false, .bool false, .bool false, .bool false, .bool false, .bool false, .bool false, .bool false, .bool false, .bool false, .bool false, .bool false, .bool false, .bool false, .bool false, .bool false, .bool false, .bool false, .bool false, .bool false, .bool false, .bool false, .bool false, .bool false, .bool false, .bool false, .bool false, .bool false, .bool false, .bool false, .bool false, .bool false, .bool false, .bool false, .bool false, .bool false, .bool false, .bool false, .bool false], plain := true } := rfl
@[go_sem] theorem tab_179 : tab 179 = some { kind := .struct [(0, 28), (6, 176), (128, 177)], sz := 189, bytes := 1136, zero := .agg [.int .i64 0, .nils, .nils, .nils, .int .i64 0, .int .i64 0, .int .i64 0, .int .i64 0, .int .i64 0, .int .i64 0, .int .i64 0, .int .i64 0, .int .i64 0, .int .i64 0, .int .i64 0, .int .i64 0, .int .i64 0, .int .i64 0, .int .i64 0, .int .i64 0, .int .i64 0, .int .i64 0, .int .i64 0, .int .i64 0, .int .i64 0, .int .i64 0, .int .i64 0, .int .i64 0, .int .i64 0, .int .i64 0, .int .i64 0, .int .i64 0, .int .i64 0, .int .i64 0, .int .i64 0, .int .i64 0, .int .i64 0, .int .i64 0, .int .i64 0, .int .i64 0, .int .i64 0, .int .i64 0, .int .i64 0, .int .i64 0, .int .i64 0, .int .i64 0, .int .i64 0, .int .i64 0, .int .i64 0, .int .i64 0, .int .i64 0, .int .i64 0, .int .i64 0, .int .i64 0, .int .i64 0, .int .i64 0, .int .i64 0, .int .i64 0, .int .i64 0, .int .i64 0, .int .i64 0, .int .i64 0, .int .i64 0, .int .i64 0, .int .i64 0, .int .i64 0, .int .i64 0, .int .i64 0, .int .i64 0, .int .i64 0, .int .i64 0, .int .i64 0, .int .i64 0, .int .i64 0, .int .i64 0, .int .i64 0, .int .i64 0, .int .i64 0, .int .i64 0, .int .i64 0, .int .i64 0, .int .i64 0, .int .i64 0, .int .i64 0, .int .i64 0, .int .i64 0, .int .i64 0, .int .i64 0, .int .i64 0, .int .i64 0, .int .i64 0, .int .i64 0, .int .i64 0, .int .i64 0, .int .i64 0, .int .i64 0, .int .i64 0, .int .i64 0, .int .i64 0, .int .i64 0, .int .i64 0, .int .i64 0, .int .i64 0, .int .i64 0, .int .i64 0, .int .i64 0, .int .i64 0, .int .i64 0, .int .i64 0, .int .i64 0, .int .i64 0, .int .i64 0, .int .i64 0, .int .i64 0, .int .i64 0, .int .i64 0, .int .i64 0, .int .i64 0, .int .i64 0, .int .i64 0, .int .i64 0, .int .i64 0, .int .i64 0, .int .i64 0, .int .i64 0, .int .i64 0, .int .i64 0, .int .i64 0, .bool false, .bool false, .bool false, .bool false, .bool false, .bool false, .bool false, .bool false, .bool false, .bool false, .bool false, .bool false, .bool false, .bool false, .bool false, .bool false, .bool false, .bool false, .bool false, .bool false, .bool false, .bool false, .bool false, .bool false, .bool false, .bool false, .bool false, .bool false, .bool false, .bool false, .bool false, .bool false, .bool false, .bool false, .bool false, .bool false, .bool false, .bool false, .bool false, .bool false, .bool false, .bool false, .bool false, .bool false, .bool false, .bool false, .bool false, .bool false, .bool false, .bool false, .bool false, .bool false, .bool false, .bool false, .bool false, .bool false, .bool false, .bool false, .bool false, .bool false, .bool false], plain := false } := rfl
@[go_sem] theorem tab_180 : tab 180 = some { kind := .map 3 4, sz := 1, bytes := 8, zero := .nilm, plain := false } := rfl
@[go_sem] theorem tab_184 : tab 184 = some { kind := .func, sz := 1, bytes := 8, zero := .nilf, plain := false } := rfl
@[go_sem] theorem tab_186 : tab 186 = some { kind := .func, sz := 1, bytes := 8, zero := .nilf, plain := false } := rfl
@[go_sem] theorem tab_190 : tab 190 = some { kind := .int .u64, sz := 1, bytes := 8, zero := .int .u64 0, plain := false } := rfl
@[go_sem] theorem tab_191 : tab 191 = some { kind := .slice 159, sz := 1, bytes := 24, zero := .nils, plain := false } := rfl
@[go_sem] theorem tab_193 : tab 193 = some { kind := .func, sz := 1, bytes := 8, zero := .nilf, plain := false } := rfl
@[go_sem] theorem tab_195 : tab 195 = some { kind := .slice 26, sz := 1, bytes := 24, zero := .nils, plain := false } := rfl
@[go_sem] theorem tab_196 : tab 196 = some { kind := .func, sz := 1, bytes := 8, zero := .nilf, plain := false } := rfl
@[go_sem] theorem tab_198 : tab 198 = some { kind := .func, sz := 1, bytes := 8, zero := .nilf, plain := false } := rfl
@[go_sem] theorem tab_200 : tab 200 = some { kind := .int .i64, sz := 1, bytes := 8, zero := .int .i64 0, plain := false } := rfl
@[go_sem] theorem tab_208 : tab 208 = some { kind := .int .u64, sz := 1, bytes := 8, zero := .int .u64 0, plain := false } := rfl
@[go_sem] theorem tab_209 : tab 209 = some { kind := .int .u64, sz := 1, bytes := 8, zero := .int .u64 0, plain := false } := rfl
@[go_sem] theorem tab_213 : tab 213 = some { kind := .ptr, sz := 1, bytes := 8, zero := .nilp, plain := false } := rfl
end Cp
namespace Cp
open Go
structure Span where
 lo : Int
 hi : Int
 deriving DecidableEq
structure Pt where
 m : Int
 d : Int
 deriving DecidableEq
structure Cpl where
 id : Int
 err : Span
 lag : Span
 brk : Int
 deriving DecidableEq
structure RowT where
 deg : List Int
 press : Int
 deriving DecidableEq
structure RunT where
 id : Int
 curve : List Pt
 cpls : List Cpl
 rows : List RowT
 gauge : Span
 deriving DecidableEq
structure StepT where
 frm : Int
 part : Int
 deriving DecidableEq
structure RulesT where
 steps : List StepT
 single : Int
 sfrom : Int
 press : Span
 pfrom : Int
 deriving DecidableEq
def encSpan (s : Span) : Val := .agg [.int .i64 s.lo, .int .i64 s.hi]
def cPt (p : Pt) : List Val := [.int .i64 p.m, .int .i64 p.d]
def cCpl (c : Cpl) : List Val := [.int .i64 c.id, .int .i64 c.err.lo, .int .i64 c.err.hi, .int .i64 c.lag.lo, .int .i64 c.lag.hi, .int .i64 c.brk]
def cRow (r : RowT) : List Val := [.lst 1 (ints r.deg), .int .i64 r.press]
def cStep (s : StepT) : List Val := [.int .i64 s.frm, .int .i64 s.part]
def cRun (r : RunT) : List Val := [.int .i64 r.id, .lst 2 (r.curve.map cPt), .lst 6 (r.cpls.map cCpl), .lst 2 (r.rows.map cRow), .int .i64 r.gauge.lo, .int .i64 r.gauge.hi]
def encRun (r : RunT) : Val := .agg (cRun r)
def cRules (u : RulesT) : List Val := [.lst 2 (u.steps.map cStep), .int .i64 u.single, .int .i64 u.sfrom, .int .i64 u.press.lo, .int .i64 u.press.hi, .int .i64 u.pfrom]
def encRules (u : RulesT) : Val := .agg (cRules u)
@[go_sem] theorem cPt_noid {l : List Pt} : noidss (l.map cPt) = true := noidss_map fun _ => rfl
@[go_sem] theorem cCpl_noid {l : List Cpl} : noidss (l.map cCpl) = true := noidss_map fun _ => rfl
@[go_sem] theorem cRow_noid {l : List RowT} : noidss (l.map cRow) = true := noidss_map fun r => by simp only [cRow, noids, noid, ints_noid, Bool.and_self]
@[go_sem] theorem cStep_noid {l : List StepT} : noidss (l.map cStep) = true := noidss_map fun _ => rfl
@[go_sem] theorem fzd_cPt {H : Hp} {n : Nat} {l : List Pt} : ((l.map cPt).map fun es => es.map (fzd H (n + 1))) = l.map cPt := map_id2 (fun _ => rfl) l
@[go_sem] theorem fzd_cCpl {H : Hp} {n : Nat} {l : List Cpl} : ((l.map cCpl).map fun es => es.map (fzd H (n + 1))) = l.map cCpl := map_id2 (fun _ => rfl) l
@[go_sem] theorem fzd_cStep {H : Hp} {n : Nat} {l : List StepT} : ((l.map cStep).map fun es => es.map (fzd H (n + 1))) = l.map cStep := map_id2 (fun _ => rfl) l
@[go_sem] theorem fzd_cRow {H : Hp} {n : Nat} {l : List RowT} : ((l.map cRow).map fun es => es.map (fzd H (n + 2))) = l.map cRow := map_id2 (fun r => by
 simp only [cRow, List.map_cons, List.map_nil, fzd_lst, fzd_ints, fzd_int]) l
theorem pt_eq {a b : Pt} : a = b ↔ a.m = b.m ∧ a.d = b.d := by cases a; cases b; simp
theorem cpl_eq {a b : Cpl} : a = b ↔ a.id = b.id ∧ a.err.lo = b.err.lo ∧ a.err.hi = b.err.hi ∧ a.lag.lo = b.lag.lo ∧ a.lag.hi = b.lag.hi ∧ a.brk = b.brk := by
 obtain ⟨a1, ⟨a2, a3⟩, ⟨a4, a5⟩, a6⟩ := a; obtain ⟨b1, ⟨b2, b3⟩, ⟨b4, b5⟩, b6⟩ := b; simp [and_assoc]
theorem row_eq {a b : RowT} : a = b ↔ a.deg = b.deg ∧ a.press = b.press := by cases a; cases b; simp
theorem step_eq {a b : StepT} : a = b ↔ a.frm = b.frm ∧ a.part = b.part := by cases a; cases b; simp
theorem run_eq {a b : RunT} : a = b ↔ a.id = b.id ∧ a.curve = b.curve ∧ a.cpls = b.cpls ∧ a.rows = b.rows ∧ a.gauge.lo = b.gauge.lo ∧ a.gauge.hi = b.gauge.hi := by
 obtain ⟨a1, a2, a3, a4, ⟨a5, a6⟩⟩ := a; obtain ⟨b1, b2, b3, b4, ⟨b5, b6⟩⟩ := b; simp
theorem rules_eq {a b : RulesT} : a = b ↔ a.steps = b.steps ∧ a.single = b.single ∧ a.sfrom = b.sfrom ∧ a.press.lo = b.press.lo ∧ a.press.hi = b.press.hi ∧ a.pfrom = b.pfrom := by
 obtain ⟨a1, a2, a3, ⟨a4, a5⟩, a6⟩ := a; obtain ⟨b1, b2, b3, ⟨b4, b5⟩, b6⟩ := b; simp [and_assoc]
theorem drop_none {α : Type} {l : List α} {k : Nat} (h : l.length ≤ k) : l.drop k = [] := List.drop_of_length_le h
def curveFrom (a : Pt) : List Pt → Bool
 | [] => true
 | p :: l => decide (a.m + 1 ≤ p.m ∧ p.m ≤ 600 ∧ a.d ≤ p.d ∧ p.d ≤ 2000) && curveFrom p l
def curveOK (l : List Pt) : Bool := decide (2 ≤ l.length ∧ l.length ≤ 10) && (match l with | [] => false | p :: _ => decide (p.m = 0)) && curveFrom ⟨-1, 0⟩ l
def degFrom (a : Pt) : List Pt → Int → Int
 | [], _ => a.d
 | b :: l, m => if m < b.m then a.d + ((b.d - a.d) * (m - a.m)).tdiv (b.m - a.m) else degFrom b l m
theorem curveOK_iff {l : List Pt} {p : Pt} (h : l[0]? = some p) : curveOK l = (decide (2 ≤ l.length ∧ l.length ≤ 10) && decide (p.m = 0) && curveFrom ⟨-1, 0⟩ l) := by
 cases l with
 | nil => cases h
 | cons q l => cases h; rfl
def degAt (l : List Pt) (m : Int) : Int := match l with | [] => 0 | p :: l => degFrom p l m
def lastM (l : List Pt) : Int := (l.getLast?.map (·.m)).getD 0
end Cp
namespace Cp
open Go
theorem curveFrom_facts : ∀ (l : List Pt) (a : Pt), -1 ≤ a.m → 0 ≤ a.d → curveFrom a l = true →
  (∀ (i : Nat) (p : Pt), l[i]? = some p → a.m < p.m ∧ a.d ≤ p.d ∧ p.m ≤ 600 ∧ p.d ≤ 2000) ∧ (∀ (i j : Nat) (p q : Pt), i < j → l[i]? = some p → l[j]? = some q → p.m < q.m ∧ p.d ≤ q.d)
 | [], a, _, _, _ => ⟨fun i p h => by simp at h, fun i j p q _ h => by simp at h⟩
 | b :: l, a, h1, h2, h => by
  simp only [curveFrom, Bool.and_eq_true, decide_eq_true_eq] at h
  obtain ⟨hb, hl⟩ := h
  obtain ⟨f1, f2⟩ := curveFrom_facts l b (by omega) (by omega) hl
  refine ⟨fun i p hi => ?_, fun i j p q hij hi hj => ?_⟩
  ·cases i with
   | zero => simp at hi; subst hi; omega
   | succ i => have := f1 i p (by simpa using hi); omega
  ·cases j with
   | zero => omega
   | succ j =>
    cases i with
    | zero => simp at hi; subst hi; have := f1 j q (by simpa using hj); omega
    | succ i => exact f2 i j p q (by omega) (by simpa using hi) (by simpa using hj)
theorem curveOK_false {l : List Pt} (h : curveFrom ⟨-1, 0⟩ l = false) : false = curveOK l := by unfold curveOK; rw [h]; simp
structure CurveF (l : List Pt) : Prop where
 len : 2 ≤ l.length ∧ l.length ≤ 10
 zero : ∃ p, l[0]? = some p ∧ p.m = 0
 all : ∀ (i : Nat) (p : Pt), l[i]? = some p → 0 ≤ p.m ∧ p.m ≤ 600 ∧ 0 ≤ p.d ∧ p.d ≤ 2000
 inc : ∀ (i j : Nat) (p q : Pt), i < j → l[i]? = some p → l[j]? = some q → p.m < q.m ∧ p.d ≤ q.d
theorem curve_facts {l : List Pt} (h : curveOK l = true) : CurveF l := by
 cases l with
 | nil => simp [curveOK] at h
 | cons a l =>
  rw [curveOK_iff (p := a) rfl] at h
  simp only [Bool.and_eq_true, decide_eq_true_eq] at h
  obtain ⟨⟨h1, h2⟩, h3⟩ := h
  obtain ⟨f1, f2⟩ := curveFrom_facts _ _ (by simp) (by simp) h3
  exact ⟨h1, ⟨a, rfl, h2⟩, fun i p hi => by have := f1 i p hi; simp at this; omega, f2⟩
def interp (a b : Pt) (m : Int) : Int := a.d + ((b.d - a.d) * (m - a.m)).tdiv (b.m - a.m)
theorem degFrom_at : ∀ (l : List Pt) (a : Pt) (i : Nat) (b : Pt) (m : Int), (∀ (i j : Nat) (p q : Pt), i < j → (a :: l)[i]? = some p → (a :: l)[j]? = some q → p.m < q.m) →
  (∀ j p, j < i → (a :: l)[j]? = some p → p.m < m) → (a :: l)[i]? = some b → (b.m = m → degFrom a l m = b.d) ∧ (∀ k c, i = k + 1 → (a :: l)[k]? = some c → m < b.m → degFrom a l m = interp c b m)
 | [], a, i, b, m, hs, hlt, hb => by
  cases i with
  | zero => simp at hb; subst hb; exact ⟨fun _ => rfl, fun k c h => by omega⟩
  | succ i => simp at hb
 | c :: l, a, i, b, m, hs, hlt, hb => by
  have ih := degFrom_at l c
  have hs' : ∀ (i j : Nat) (p q : Pt), i < j → (c :: l)[i]? = some p → (c :: l)[j]? = some q → p.m < q.m := fun i j p q hij hi hj => hs (i + 1) (j + 1) p q (by omega) (by simpa using hi) (by simpa using hj)
  have hac : a.m < c.m := hs 0 1 a c (by omega) rfl rfl
  cases i with
  | zero =>
   simp at hb; subst hb
   refine ⟨fun hm => ?_, fun k c h => by omega⟩
   simp only [degFrom]
   rw [if_pos (by omega)]
   have : m - a.m = 0 := by omega
   simp [this]
  | succ i =>
   have ham := hlt 0 a (by omega) rfl
   have hb' : (c :: l)[i]? = some b := by simpa using hb
   have hlt' : ∀ j p, j < i → (c :: l)[j]? = some p → p.m < m := fun j p hj hp => hlt (j + 1) p (by omega) (by simpa using hp)
   obtain ⟨q1, q2⟩ := ih i b m hs' hlt' hb'
   simp only [degFrom]
   by_cases hc : m < c.m
   ·rw [if_pos hc]
    cases i with
    | zero =>
     simp at hb'; subst hb'
     refine ⟨fun hm => by omega, fun k d hk hd _ => ?_⟩
     obtain rfl : k = 0 := by omega
     simp at hd; subst hd; rfl
    | succ i => have := hlt' 0 c (by omega) rfl; omega
   ·rw [if_neg hc]
    refine ⟨q1, fun k d hk hd hm => ?_⟩
    obtain rfl : k = i := by omega
    cases k with
    | zero => simp at hb'; subst hb'; omega
    | succ k => exact q2 k d rfl (by simpa using hd) hm
theorem degAt_at {l : List Pt} (hc : CurveF l) {i : Nat} {b : Pt} {m : Int} (hlt : ∀ j p, j < i → l[j]? = some p → p.m < m) (hb : l[i]? = some b) :
  (b.m = m → degAt l m = b.d) ∧ (∀ k c, i = k + 1 → l[k]? = some c → m < b.m → degAt l m = interp c b m) := by
 cases l with
 | nil => simp at hb
 | cons a l => exact degFrom_at l a i b m (fun i j p q hij hi hj => (hc.inc i j p q hij hi hj).1) hlt hb
theorem lastM_get {l : List Pt} {p : Pt} (h : l[l.length - 1]? = some p) : lastM l = p.m := by
 unfold lastM; rw [List.getLast?_eq_getElem?, h]; rfl
theorem interp_bounds {a b : Pt} {m : Int} (ha : 0 ≤ a.m ∧ a.m ≤ 600 ∧ 0 ≤ a.d ∧ a.d ≤ 2000) (hb : 0 ≤ b.m ∧ b.m ≤ 600 ∧ 0 ≤ b.d ∧ b.d ≤ 2000) (hd : a.d ≤ b.d) (h1 : a.m ≤ m) (h2 : m < b.m) :
  (0 ≤ (b.d - a.d) * (m - a.m) ∧ (b.d - a.d) * (m - a.m) ≤ 1200000) ∧ (0 ≤ ((b.d - a.d) * (m - a.m)).tdiv (b.m - a.m) ∧ ((b.d - a.d) * (m - a.m)).tdiv (b.m - a.m) ≤ b.d - a.d) := by
 have e1 : 0 ≤ (b.d - a.d) * (m - a.m) := Int.mul_nonneg (by omega) (by omega)
 have e2 : (b.d - a.d) * (m - a.m) ≤ 2000 * 600 := Int.mul_le_mul (by omega) (by omega) (by omega) (by omega)
 rw [Int.tdiv_eq_ediv_of_nonneg e1]
 refine ⟨⟨e1, by omega⟩, Int.ediv_nonneg e1 (by omega), ?_⟩
 refine Int.le_trans (Int.ediv_le_ediv (by omega) (Int.mul_le_mul_of_nonneg_left (show m - a.m ≤ b.m - a.m by omega) (show 0 ≤ b.d - a.d by omega))) ?_
 rw [Int.mul_ediv_cancel _ (by omega)]; exact Int.le_refl _
end Cp
namespace Cp
open Go
def cplOK (last : Int) (c : Cpl) : Bool := decide ((last + 1 ≤ c.id ∧ c.id ≤ 9999) ∧ (-50 ≤ c.err.lo ∧ c.err.lo ≤ c.err.hi ∧ c.err.hi ≤ 50) ∧ (0 ≤ c.lag.lo ∧ c.lag.lo ≤ c.lag.hi ∧ c.lag.hi ≤ 3) ∧ 0 ≤ c.brk ∧ c.brk ≤ 600)
def cplsFrom (last : Int) : List Cpl → Bool
 | [] => true
 | c :: l => cplOK last c && cplsFrom c.id l
def degsOK (l : List Int) : Bool := l.all fun d => decide (0 ≤ d ∧ d ≤ 2000)
def rowOK (n : Nat) (r : RowT) : Bool := decide (r.deg.length = n ∧ -100 ≤ r.press ∧ r.press ≤ 100) && degsOK r.deg
def headOK (r : RunT) : Bool := decide ((0 ≤ r.id ∧ r.id ≤ 9999) ∧ (-20 ≤ r.gauge.lo ∧ r.gauge.lo ≤ r.gauge.hi ∧ r.gauge.hi ≤ 20) ∧ (1 ≤ r.cpls.length ∧ r.cpls.length ≤ 8) ∧ (1 ≤ r.rows.length ∧ r.rows.length ≤ 60 ∧ r.rows.length ≤ lastM r.curve))
def runOK (r : RunT) : Bool := curveOK r.curve && headOK r && cplsFrom (-1) r.cpls && r.rows.all (rowOK r.cpls.length)
theorem runOK_eq {r : RunT} (h1 : curveOK r.curve = true) (h2 : headOK r = true) : runOK r = (cplsFrom (-1) r.cpls && r.rows.all (rowOK r.cpls.length)) := by simp [runOK, h1, h2]
theorem runOK_curve {r : RunT} (h : curveOK r.curve = false) : runOK r = false := by simp [runOK, h]
theorem runOK_head {r : RunT} (h : headOK r = false) : runOK r = false := by simp [runOK, h]
def stepOK (last : Int) (s : StepT) : Bool := decide ((last + 1 ≤ s.frm ∧ s.frm ≤ 600) ∧ 0 ≤ s.part ∧ s.part ≤ 1000)
def stepsFrom (last : Int) : List StepT → Bool
 | [] => true
 | s :: l => stepOK last s && stepsFrom s.frm l
def limsOK (u : RulesT) : Bool := decide (u.steps.length ≤ 5 ∧ (0 ≤ u.single ∧ u.single ≤ 2000) ∧ (1 ≤ u.sfrom ∧ u.sfrom ≤ 600) ∧ (-100 ≤ u.press.lo ∧ u.press.lo ≤ u.press.hi ∧ u.press.hi ≤ 100) ∧ 1 ≤ u.pfrom ∧ u.pfrom ≤ 600)
def rulesOK (u : RulesT) : Bool := limsOK u && stepsFrom 0 u.steps
structure RunB (r : RunT) : Prop where
 curve : r.curve.length ≤ 4611686018427387904
 cpls : r.cpls.length ≤ 4611686018427387904
 rows : r.rows.length ≤ 4611686018427387904
 degs : ∀ x ∈ r.rows, x.deg.length ≤ 4611686018427387904
structure RulesB (u : RulesT) : Prop where
 steps : u.steps.length ≤ 4611686018427387904
end Cp
namespace Cp
open Go
def works (c : Cpl) (m : Int) : Bool := decide (c.brk = 0 ∨ m < c.brk)
def wkFrom (m : Int) : Nat → List Cpl → List Nat
 | _, [] => []
 | k, c :: l => if works c m = true then k :: wkFrom m (k + 1) l else wkFrom m (k + 1) l
def wk (r : RunT) (m : Int) : List Nat := wkFrom m 0 r.cpls
def natI (l : List Nat) : List Int := l.map fun (k : Nat) => (k : Int)
theorem natI_snoc {l : List Nat} {k : Nat} : natI l ++ [(k : Int)] = natI (l ++ [k]) := by simp [natI]
theorem natI_length {l : List Nat} : (natI l).length = l.length := by simp [natI]
def readAt (r : RunT) (i : Nat) (row : Int) : Int := ((r.rows[(row - 1).toNat]?).bind fun x => x.deg[i]?).getD 0
def lastRow (r : RunT) (c : Cpl) : Int := if 0 < c.brk then min (r.rows.length : Int) (c.brk - 1) else r.rows.length
def readLag (r : RunT) (c : Cpl) (i : Nat) (m lag : Int) : Int := readAt r i (min (m + lag) (lastRow r c))
def extLo (g : Int → Int) (lo : Int) : Nat → Int
 | 0 => g lo
 | n + 1 => min (extLo g lo n) (g (lo + (n + 1 : Nat)))
def extHi (g : Int → Int) (lo : Int) : Nat → Int
 | 0 => g lo
 | n + 1 => max (extHi g lo n) (g (lo + (n + 1 : Nat)))
def truth (r : RunT) (c : Cpl) (i : Nat) (m : Int) : Span :=
 ⟨extLo (readLag r c i m) c.lag.lo (c.lag.hi - c.lag.lo).toNat - c.err.hi, extHi (readLag r c i m) c.lag.lo (c.lag.hi - c.lag.lo).toNat - c.err.lo⟩
structure RunF (r : RunT) : Prop where
 curve : CurveF r.curve
 cpls : 1 ≤ r.cpls.length ∧ r.cpls.length ≤ 8
 rows : 1 ≤ r.rows.length ∧ r.rows.length ≤ 60 ∧ r.rows.length ≤ lastM r.curve
 gauge : -20 ≤ r.gauge.lo ∧ r.gauge.lo ≤ r.gauge.hi ∧ r.gauge.hi ≤ 20
 cpl : ∀ (i : Nat) (c : Cpl), r.cpls[i]? = some c → (0 ≤ c.id ∧ c.id ≤ 9999) ∧ (-50 ≤ c.err.lo ∧ c.err.lo ≤ c.err.hi ∧ c.err.hi ≤ 50) ∧ (0 ≤ c.lag.lo ∧ c.lag.lo ≤ c.lag.hi ∧ c.lag.hi ≤ 3) ∧ 0 ≤ c.brk ∧ c.brk ≤ 600
 ids : ∀ (i j : Nat) (a b : Cpl), i < j → r.cpls[i]? = some a → r.cpls[j]? = some b → a.id < b.id
 row : ∀ (i : Nat) (x : RowT), r.rows[i]? = some x → x.deg.length = r.cpls.length ∧ -100 ≤ x.press ∧ x.press ≤ 100 ∧ ∀ (j : Nat) (d : Int), x.deg[j]? = some d → 0 ≤ d ∧ d ≤ 2000
theorem cplsFrom_facts : ∀ (l : List Cpl) (last : Int), -1 ≤ last → cplsFrom last l = true →
  (∀ (i : Nat) (c : Cpl), l[i]? = some c → last < c.id ∧ (0 ≤ c.id ∧ c.id ≤ 9999) ∧ (-50 ≤ c.err.lo ∧ c.err.lo ≤ c.err.hi ∧ c.err.hi ≤ 50) ∧ (0 ≤ c.lag.lo ∧ c.lag.lo ≤ c.lag.hi ∧ c.lag.hi ≤ 3) ∧ 0 ≤ c.brk ∧ c.brk ≤ 600) ∧
  (∀ (i j : Nat) (a b : Cpl), i < j → l[i]? = some a → l[j]? = some b → a.id < b.id)
 | [], last, _, _ => ⟨fun i p h => by simp at h, fun i j p q _ h => by simp at h⟩
 | b :: l, last, h1, h => by
  simp only [cplsFrom, Bool.and_eq_true] at h
  obtain ⟨hb, hl⟩ := h
  simp only [cplOK, decide_eq_true_eq] at hb
  obtain ⟨f1, f2⟩ := cplsFrom_facts l b.id (by omega) hl
  refine ⟨fun i p hi => ?_, fun i j p q hij hi hj => ?_⟩
  ·cases i with
   | zero => simp at hi; subst hi; omega
   | succ i => have := f1 i p (by simpa using hi); omega
  ·cases j with
   | zero => omega
   | succ j =>
    cases i with
    | zero => simp at hi; subst hi; have := f1 j q (by simpa using hj); omega
    | succ i => exact f2 i j p q (by omega) (by simpa using hi) (by simpa using hj)
theorem run_facts {r : RunT} (h : runOK r = true) : RunF r := by
 simp only [runOK, Bool.and_eq_true, headOK, decide_eq_true_eq, List.all_eq_true] at h
 obtain ⟨⟨⟨h1, h2⟩, h3⟩, h4⟩ := h
 obtain ⟨f1, f2⟩ := cplsFrom_facts r.cpls (-1) (by omega) h3
 refine ⟨curve_facts h1, h2.2.2.1, h2.2.2.2, h2.2.1, fun i c hi => (f1 i c hi).2, f2, fun i x hx => ?_⟩
 have := h4 x (List.mem_of_getElem? hx)
 simp only [rowOK, degsOK, Bool.and_eq_true, decide_eq_true_eq, List.all_eq_true] at this
 exact ⟨this.1.1, this.1.2.1, this.1.2.2, fun j d hj => this.2 d (List.mem_of_getElem? hj)⟩
theorem works_iff {c : Cpl} {m : Int} : works c m = true ↔ c.brk = 0 ∨ m < c.brk := by simp [works]
theorem wkFrom_mem : ∀ (l : List Cpl) (k : Nat) (m : Int) (i : Nat), i ∈ wkFrom m k l ↔ ∃ j c, i = k + j ∧ l[j]? = some c ∧ works c m = true
 | [], k, m, i => by simp [wkFrom]
 | c :: l, k, m, i => by
  have ih := wkFrom_mem l (k + 1) m i
  have step : (∃ j c', i = k + j ∧ (c :: l)[j]? = some c' ∧ works c' m = true) ↔ (i = k ∧ works c m = true) ∨ ∃ j c', i = k + 1 + j ∧ l[j]? = some c' ∧ works c' m = true := by
   constructor
   ·rintro ⟨j, c', h1, h2, h3⟩
    cases j with
    | zero => simp at h2; subst h2; exact .inl ⟨by omega, h3⟩
    | succ j => exact .inr ⟨j, c', by omega, by simpa using h2, h3⟩
   ·rintro (⟨h1, h2⟩ | ⟨j, c', h1, h2, h3⟩)
    ·exact ⟨0, c, by omega, rfl, h2⟩
    ·exact ⟨j + 1, c', by omega, by simpa using h2, h3⟩
  rw [step]
  simp only [wkFrom]
  split
  ·rename_i hw; rw [List.mem_cons, ih]; simp [hw]
  ·rename_i hw; rw [ih]; simp [hw]
theorem wk_mem {r : RunT} {m : Int} {i : Nat} : i ∈ wk r m ↔ ∃ c, r.cpls[i]? = some c ∧ works c m = true := by
 unfold wk
 rw [wkFrom_mem]
 constructor
 ·rintro ⟨j, c, h1, h2, h3⟩; exact ⟨c, by rw [h1, Nat.zero_add]; exact h2, h3⟩
 ·rintro ⟨c, h2, h3⟩; exact ⟨i, c, by omega, h2, h3⟩
theorem lastRow_pos {r : RunT} (hF : RunF r) {i : Nat} {c : Cpl} (hc : r.cpls[i]? = some c) {m : Int} (hm : 1 ≤ m) (hw : works c m = true) : 1 ≤ lastRow r c ∧ lastRow r c ≤ r.rows.length := by
 have h1 := hF.rows
 rw [works_iff] at hw
 unfold lastRow
 split <;> omega
theorem readAt_some {r : RunT} {i : Nat} {row : Int} {x : RowT} {d : Int} (h1 : r.rows[(row - 1).toNat]? = some x) (h2 : x.deg[i]? = some d) : readAt r i row = d := by unfold readAt; rw [h1]; simp only [Option.bind_some, h2, Option.getD_some]
theorem readAt_ok {r : RunT} (hF : RunF r) {i : Nat} (hi : i < r.cpls.length) {row : Int} (h1 : 1 ≤ row) (h2 : row ≤ r.rows.length) :
  ∃ x d, r.rows[(row - 1).toNat]? = some x ∧ x.deg[i]? = some d ∧ readAt r i row = d ∧ 0 ≤ d ∧ d ≤ 2000 := by
 obtain ⟨x, hx⟩ : ∃ x, r.rows[(row - 1).toNat]? = some x := ⟨_, List.getElem?_eq_getElem (by omega)⟩
 obtain ⟨q1, q2, q3, q4⟩ := hF.row _ x hx
 obtain ⟨d, hd⟩ : ∃ d, x.deg[i]? = some d := ⟨_, List.getElem?_eq_getElem (by omega)⟩
 exact ⟨x, d, hx, hd, readAt_some hx hd, q4 i d hd⟩
theorem ext_bounds {g : Int → Int} {lo a b : Int} : ∀ (n : Nat), (∀ k : Nat, k ≤ n → a ≤ g (lo + k) ∧ g (lo + k) ≤ b) → a ≤ extLo g lo n ∧ extLo g lo n ≤ extHi g lo n ∧ extHi g lo n ≤ b
 | 0, h => by have := h 0 (by omega); simp [extLo, extHi] at this ⊢; exact this
 | n + 1, h => by
  have ih := ext_bounds n fun k hk => h k (by omega)
  have := h (n + 1) (by omega)
  simp only [extLo, extHi]
  omega
theorem take_snoc {α : Type} {l : List α} {k : Nat} {x : α} (h : l[k]? = some x) : l.take (k + 1) = l.take k ++ [x] := by
 rw [List.take_add_one, h]; rfl
@[go_sem] theorem natI_get {l : List Nat} {k : Nat} : (natI l)[k]? = (l[k]?).map fun (n : Nat) => (n : Int) := by simp [natI]
@[go_sem] theorem natI_len {l : List Nat} : (natI l).length = l.length := natI_length
theorem mul_bnd {a q A B C : Int} (h1 : -A ≤ a) (h2 : a ≤ B) (hA : 0 ≤ A) (hB : 0 ≤ B) (h3 : 0 ≤ q) (h4 : q ≤ C) : -(A * C) ≤ a * q ∧ a * q ≤ B * C := by
 have e1 : a * q ≤ B * q := Int.mul_le_mul_of_nonneg_right h2 h3
 have e2 : B * q ≤ B * C := Int.mul_le_mul_of_nonneg_left h4 hB
 have e3 : -A * q ≤ a * q := Int.mul_le_mul_of_nonneg_right h1 h3
 have e4 : A * q ≤ A * C := Int.mul_le_mul_of_nonneg_left h4 hA
 rw [Int.neg_mul] at e3
 omega
def sumLo (r : RunT) (m : Int) : List Nat → Int
 | [] => 0
 | i :: l => (match r.cpls[i]? with | some c => (truth r c i m).lo | none => 0) + sumLo r m l
def sumHi (r : RunT) (m : Int) : List Nat → Int
 | [] => 0
 | i :: l => (match r.cpls[i]? with | some c => (truth r c i m).hi | none => 0) + sumHi r m l
theorem sumLo_append {r : RunT} {m : Int} : ∀ {a b : List Nat}, sumLo r m (a ++ b) = sumLo r m a + sumLo r m b
 | [], b => by simp [sumLo]
 | i :: a, b => by simp only [List.cons_append, sumLo, sumLo_append (a := a)]; omega
theorem sumHi_append {r : RunT} {m : Int} : ∀ {a b : List Nat}, sumHi r m (a ++ b) = sumHi r m a + sumHi r m b
 | [], b => by simp [sumHi]
 | i :: a, b => by simp only [List.cons_append, sumHi, sumHi_append (a := a)]; omega
def meanS (r : RunT) (m : Int) : Span := ⟨sumLo r m (wk r m) * (840 / (wk r m).length), sumHi r m (wk r m) * (840 / (wk r m).length)⟩
theorem truth_bounds {r : RunT} (hF : RunF r) {i : Nat} {c : Cpl} (hc : r.cpls[i]? = some c) {m : Int} (hm : 1 ≤ m) (hm2 : m ≤ r.rows.length) (hw : works c m = true) :
  -50 ≤ (truth r c i m).lo ∧ (truth r c i m).lo ≤ (truth r c i m).hi ∧ (truth r c i m).hi ≤ 2050 := by
 have hi : i < r.cpls.length := (List.getElem?_eq_some_iff.1 hc).1
 have hcf := hF.cpl i c hc
 obtain ⟨l1, l2⟩ := lastRow_pos hF hc hm hw
 have hrows := hF.rows
 have := ext_bounds (g := readLag r c i m) (lo := c.lag.lo) (a := 0) (b := 2000) (c.lag.hi - c.lag.lo).toNat (fun k hk => by
  obtain ⟨x, d, _, _, h1, h2, h3⟩ := readAt_ok hF hi (row := min (m + (c.lag.lo + k)) (lastRow r c)) (by omega) (by omega)
  unfold readLag
  rw [h1]; exact ⟨h2, h3⟩)
 simp only [truth]
 omega
theorem sum_bounds {r : RunT} (hF : RunF r) {m : Int} (hm : 1 ≤ m) (hm2 : m ≤ r.rows.length) : ∀ (l : List Nat), (∀ i ∈ l, i ∈ wk r m) → -50 * l.length ≤ sumLo r m l ∧ sumLo r m l ≤ sumHi r m l ∧ sumHi r m l ≤ 2050 * l.length
 | [], _ => by simp [sumLo, sumHi]
 | i :: l, h => by
  have ih := sum_bounds hF hm hm2 l fun j hj => h j (by simp [hj])
  obtain ⟨c, h1, h2⟩ := wk_mem.1 (h i (by simp))
  have := truth_bounds hF h1 hm hm2 h2
  simp only [sumLo, sumHi, h1, List.length_cons]
  omega
theorem wkFrom_len (m : Int) : ∀ (l : List Cpl) (k : Nat), (wkFrom m k l).length ≤ l.length
 | [], k => by simp [wkFrom]
 | c :: l, k => by
  have := wkFrom_len m l (k + 1)
  simp only [wkFrom]
  split <;> simp <;> omega
theorem wk_len {r : RunT} {m : Int} : (wk r m).length ≤ r.cpls.length := wkFrom_len m _ _
end Cp
namespace Cp
open Go
theorem cons_ne {α : Type} [DecidableEq α] {x y : α} {xs ys : List α} (h : ¬ x = y) : false = decide (x :: xs = y :: ys) := by simp [h]
theorem cons_same {α : Type} [DecidableEq α] {x y : α} {xs ys : List α} (h : x = y) : decide (x :: xs = y :: ys) = decide (xs = ys) := by simp [h]
theorem dec_congr {p q : Prop} [Decidable p] [Decidable q] (h : p ↔ q) : decide p = decide q := by simp [h]
structure Brc where
 m : Int
 kind : Int
 cpl : Int
 known : Int
 deriving DecidableEq
def cBrc (b : Brc) : List Val := [.int .i64 b.m, .int .u8 b.kind, .int .i64 b.cpl, .int .u8 b.known]
@[go_sem] theorem fzd_cBrc {H : Hp} {n : Nat} {l : List Brc} : ((l.map cBrc).map fun es => es.map (fzd H (n + 1))) = l.map cBrc := map_id2 (fun _ => rfl) l
@[go_sem] theorem cBrc_noid {l : List Brc} : noidss (l.map cBrc) = true := noidss_map fun _ => rfl
def greatS (r : RunT) (u : RulesT) : Bool := decide (15 < r.curve.length ∨ 12 < r.cpls.length ∨ 80 < r.rows.length ∨ 10 < u.steps.length) || r.rows.any fun x => decide (15 < x.deg.length)
structure RunSm (r : RunT) : Prop where
 curve : r.curve.length ≤ 15
 cpls : r.cpls.length ≤ 12
 rows : r.rows.length ≤ 80
 degs : ∀ x ∈ r.rows, x.deg.length ≤ 15
theorem great_sm {r : RunT} {u : RulesT} (h : greatS r u = false) : RunSm r ∧ u.steps.length ≤ 10 := by
 simp only [greatS, Bool.or_eq_false_iff, decide_eq_false_iff_not, List.any_eq_false, decide_eq_true_eq] at h
 exact ⟨⟨by omega, by omega, by omega, fun x hx => by have := h.2 x hx; omega⟩, by omega⟩
theorem RunSm.b {r : RunT} (h : RunSm r) : RunB r := ⟨by have := h.curve; omega, by have := h.cpls; omega, by have := h.rows; omega, fun x hx => by have := h.degs x hx; omega⟩
theorem map_set_self {α : Type} {g : α → List Val} {l : List α} {k : Nat} {x : α} (h : l[k]? = some x) : (l.map g).set k (g x) = l.map g := by
 apply List.ext_getElem?
 intro j
 rw [List.getElem?_set]
 by_cases hj : k = j
 ·subst hj
  obtain ⟨hk, rfl⟩ := List.getElem?_eq_some_iff.1 h
  simp [hk]
 ·rw [if_neg hj]
end Cp
namespace Cp
open Go
section
variable {P : Program} {T : Tab} {md : Me} {os : List Oper} {K : Fr → Hp → Prop} {f : Fr} {H : Hp} {d : Option Tmp} {ty : TypeId} {pos : String} {af : Array Edge} {g : Option (Nat × Bool)} {ss lk : List Nat}
 {s b : Nat} {z : Val} {p : Bool}
@[go_sem] theorem xck_struct {n : Nat} {fs : List (Nat × Nat)} {cs : List Val} : xck T (n + 1) { kind := .struct fs, sz := s, bytes := b, zero := z, plain := p } (.agg cs) = xckF T (xck T n) cs fs := rfl
def xckF1 (T : Tab) (g : TI → Val → Bool) (cs : List Val) (fs : List (Nat × Nat)) (off : Nat) : Option TI → Bool
 | none => false
 | some fi => match rdC fi (cs.drop off) with | none => false | some a => g fi a && xckF T g cs fs
@[go_sem] theorem xckF_nil {g : TI → Val → Bool} {cs : List Val} : xckF T g cs [] = true := rfl
@[go_sem] theorem xckF_cons {g : TI → Val → Bool} {cs : List Val} {off ft : Nat} {fs : List (Nat × Nat)} : xckF T g cs ((off, ft) :: fs) = xckF1 T g cs fs off (T ft) := by
 simp only [xckF, xckF1]
 cases T ft <;> rfl
def xckF2 (T : Tab) (g : TI → Val → Bool) (cs : List Val) (fs : List (Nat × Nat)) (fi : TI) : Option Val → Bool
 | none => false
 | some a => g fi a && xckF T g cs fs
@[go_sem] theorem xckF1_some {g : TI → Val → Bool} {cs : List Val} {off : Nat} {fs : List (Nat × Nat)} {fi : TI} : xckF1 T g cs fs off (some fi) = xckF2 T g cs fs fi (rdC fi (cs.drop off)) := rfl
@[go_sem] theorem xckF2_some {g : TI → Val → Bool} {cs : List Val} {fs : List (Nat × Nat)} {fi : TI} {a : Val} : xckF2 T g cs fs fi (some a) = (g fi a && xckF T g cs fs) := rfl
def lkF (z : Val) : Option (Option (Nat × Val)) → Option Val
 | none => none
 | some none => some z
 | some (some (_, v)) => some v
@[go_sem] theorem lkF_no : lkF z (some none) = some z := rfl
@[go_sem] theorem lkF_yes {i : Nat} {v : Val} : lkF z (some (some (i, v))) = some v := rfl
def lkH (T : Tab) (kt : TypeId) (key : Val) (z : Val) (e : Nat) (ck : Bool) : Option (Nat × AObj) → Option Val
 | some (e', .map _ es) => if e = e' ∧ ck = true then lkF z (xfind T kt key es 0) else none
 | some (e', .frm _ es) => if e = e' ∧ ck = true then lkF z (xfind T kt key es 0) else none
 | _ => none
@[go_sem] theorem lkH_map {kt : TypeId} {key : Val} {e e' ver : Nat} {ck : Bool} {es : List (Val × Val)} : lkH T kt key z e ck (some (e', .map ver es)) = if e = e' ∧ ck = true then lkF z (xfind T kt key es 0) else none := rfl
@[go_sem] theorem lkH_frm {kt : TypeId} {key : Val} {e e' ver : Nat} {ck : Bool} {es : List (Val × Val)} : lkH T kt key z e ck (some (e', .frm ver es)) = if e = e' ∧ ck = true then lkF z (xfind T kt key es 0) else none := rfl
def lkT2 (T : Tab) (H : Hp) (kt : TypeId) (key : Val) (k e : Nat) : Option TI → Option TI → Option Val
 | some ki, some vi => lkH T kt key vi.zero e (xck T 8 ki key) (H k)
 | _, _ => none
@[go_sem] theorem lkT2_some {kt : TypeId} {key : Val} {k e : Nat} {ki vi : TI} : lkT2 T H kt key k e (some ki) (some vi) = lkH T kt key vi.zero e (xck T 8 ki key) (H k) := rfl
def lkT (T : Tab) (H : Hp) (key : Val) (k e : Nat) : Option TI → Option Val
 | some { kind := .map kt vt, .. } => lkT2 T H kt key k e (T kt) (T vt)
 | _ => none
@[go_sem] theorem lkT_map {key : Val} {k e kt vt : Nat} : lkT T H key k e (some { kind := .map kt vt, sz := s, bytes := b, zero := z, plain := p }) = lkT2 T H kt key k e (T kt) (T vt) := rfl
@[go_sem] theorem xlookup_eq {t : TypeId} {k e : Nat} {key : Val} : xlookup T H t (.map k e) key false = lkT T H key k e (T t) := by
 unfold xlookup lkT
 cases T t with
 | none => rfl
 | some ti =>
  obtain ⟨kind, _, _, _, _⟩ := ti
  cases kind <;> try rfl
  rename_i kt vt
  simp only [lkT2]
  cases T kt with
  | none => rfl
  | some ki =>
   cases T vt with
   | none => rfl
   | some vi =>
    simp only
    have hF : ∀ es : List (Val × Val), (match xfind T kt key es 0 with | none => none | some none => some (if false = true then Val.tup [vi.zero, .bool false] else vi.zero) | some (some (_, v)) => some (if false = true then Val.tup [v, .bool true] else v)) = lkF vi.zero (xfind T kt key es 0) := fun es => by
     cases xfind T kt key es 0 with
     | none => rfl
     | some q => cases q <;> rfl
    cases hc : xck T 8 ki key with
    | false =>
     cases H k with
     | none => rfl
     | some q => obtain ⟨e', o⟩ := q; cases o <;> simp [lkH]
    | true =>
     cases H k with
     | none => rfl
     | some q =>
      obtain ⟨e', o⟩ := q
      cases o <;> try rfl
      all_goals
       by_cases he : e = e'
       ·subst he; simp only [if_true, lkH, and_self]; exact hF _
       ·simp [lkH, he]
@[go_sem] theorem xgo_lookup {t : TypeId} {m key : Operand} {o : Bool} : xgo P T md { dst := d, op := .lookup t m key o, type := ty, pos := pos, after := af, guard := g } K f H = one K d f H (xlookup T H t (ev f m) (ev f key) o) := by
 simp only [xgo, xop]
 generalize xlookup T H t (ev f m) (ev f key) o = X
 cases X <;> exact kk _
end
attribute [go_sem] Bool.true_and
end Cp
namespace Cp
open Go
section
variable {P : Program} {T : Tab} {md : Me} {os : List Oper} {K : Fr → Hp → Prop} {f : Fr} {H H' : Hp} {d : Option Tmp} {ty : TypeId} {pos : String} {af : Array Edge} {g : Option (Nat × Bool)} {ss lk : List Nat}
theorem stpM_stpY {o : Oper} (h : ∀ a, o.op ≠ .call a) : stpM P T md os ss lk o K f H = stpY P T md os ss lk o K f H := by
 unfold stpM
 split
 ·rename_i h1 _; exact absurd h1 (h _)
 ·rfl
@[go_sem] theorem metK_iface {m : String} {args : List Val} {t : TypeId} {v : Val} : metK P md d K f H m args (.iface t v) = ∃ fid, Meth P t m fid ∧ if imp1 md d then impK P d K f H fid (v :: args) else pureK P d K f H fid (v :: args) := rfl
@[go_sem] theorem stpM_invoke {r : Operand} {m : String} {xs : Array Operand} {ts : Array TypeId} : stpM P T md os ss lk { dst := d, op := .call { callee := .invoke r m, args := xs, argTypes := ts }, type := ty, pos := pos, after := af, guard := none } K f H = metK P md d K f H m (xs.toList.map (ev f)) (ev f r) := rfl
@[go_sem] theorem stpM_call {h : Operand} {xs : Array Operand} {ts : Array TypeId} : stpM P T md os ss lk { dst := d, op := .call { callee := .value h, args := xs, argTypes := ts }, type := ty, pos := pos, after := af, guard := g } K f H = stpY P T md os ss lk { dst := d, op := .call { callee := .value h, args := xs, argTypes := ts }, type := ty, pos := pos, after := af, guard := g } K f H := by cases g <;> rfl
@[go_sem] theorem stpM_builtin {b : Builtin} {xs : Array Operand} {ts : Array TypeId} : stpM P T md os ss lk { dst := d, op := .call { callee := .builtin b, args := xs, argTypes := ts }, type := ty, pos := pos, after := af, guard := g } K f H = stpY P T md os ss lk { dst := d, op := .call { callee := .builtin b, args := xs, argTypes := ts }, type := ty, pos := pos, after := af, guard := g } K f H := by cases g <;> rfl
@[go_sem] theorem stpM_move {x : Operand} : stpM P T md os ss lk { dst := d, op := .move x, type := ty, pos := pos, after := af, guard := g } K f H = stpY P T md os ss lk { dst := d, op := .move x, type := ty, pos := pos, after := af, guard := g } K f H := stpM_stpY (by simp)
@[go_sem] theorem stpM_assign {x : Operand} : stpM P T md os ss lk { dst := d, op := .assign x, type := ty, pos := pos, after := af, guard := g } K f H = stpY P T md os ss lk { dst := d, op := .assign x, type := ty, pos := pos, after := af, guard := g } K f H := stpM_stpY (by simp)
@[go_sem] theorem stpM_load {t : TypeId} {x : Operand} : stpM P T md os ss lk { dst := d, op := .load t x, type := ty, pos := pos, after := af, guard := g } K f H = stpY P T md os ss lk { dst := d, op := .load t x, type := ty, pos := pos, after := af, guard := g } K f H := stpM_stpY (by simp)
@[go_sem] theorem stpM_store {t : TypeId} {x y : Operand} : stpM P T md os ss lk { dst := d, op := .store t x y, type := ty, pos := pos, after := af, guard := g } K f H = stpY P T md os ss lk { dst := d, op := .store t x y, type := ty, pos := pos, after := af, guard := g } K f H := stpM_stpY (by simp)
@[go_sem] theorem stpY_store {t : TypeId} {x y : Operand} : stpY P T md os ss lk { dst := d, op := .store t x y, type := ty, pos := pos, after := af, guard := g } K f H = stpL P T md os ss lk { dst := d, op := .store t x y, type := ty, pos := pos, after := af, guard := g } K f H := stpY_stpL (by simp)
@[go_sem] theorem stpM_unOp {p : UnOp} {t : TypeId} {x : Operand} : stpM P T md os ss lk { dst := d, op := .unOp p t x, type := ty, pos := pos, after := af, guard := g } K f H = stpY P T md os ss lk { dst := d, op := .unOp p t x, type := ty, pos := pos, after := af, guard := g } K f H := stpM_stpY (by simp)
@[go_sem] theorem stpM_fieldAddr {t : TypeId} {x : Operand} {n : Nat} : stpM P T md os ss lk { dst := d, op := .fieldAddr t x n, type := ty, pos := pos, after := af, guard := g } K f H = stpY P T md os ss lk { dst := d, op := .fieldAddr t x n, type := ty, pos := pos, after := af, guard := g } K f H := stpM_stpY (by simp)
@[go_sem] theorem stpM_binOp {p : BinOp} {t u : TypeId} {x y : Operand} : stpM P T md os ss lk { dst := d, op := .binOp p t x y u, type := ty, pos := pos, after := af, guard := g } K f H = stpY P T md os ss lk { dst := d, op := .binOp p t x y u, type := ty, pos := pos, after := af, guard := g } K f H := stpM_stpY (by simp)
@[go_sem] theorem stpM_indexAddr {t : TypeId} {x y : Operand} : stpM P T md os ss lk { dst := d, op := .indexAddr t x y, type := ty, pos := pos, after := af, guard := g } K f H = stpY P T md os ss lk { dst := d, op := .indexAddr t x y, type := ty, pos := pos, after := af, guard := g } K f H := stpM_stpY (by simp)
@[go_sem] theorem stpM_extract {x : Operand} {n : Nat} : stpM P T md os ss lk { dst := d, op := .extract x n, type := ty, pos := pos, after := af, guard := g } K f H = stpY P T md os ss lk { dst := d, op := .extract x n, type := ty, pos := pos, after := af, guard := g } K f H := stpM_stpY (by simp)
@[go_sem] theorem stpY_extract {x : Operand} {n : Nat} : stpY P T md os ss lk { dst := d, op := .extract x n, type := ty, pos := pos, after := af, guard := g } K f H = stpL P T md os ss lk { dst := d, op := .extract x n, type := ty, pos := pos, after := af, guard := g } K f H := stpY_stpL (by simp)
@[go_sem] theorem stpM_build {t : TypeId} {ps : Array (Nat × Operand)} : stpM P T md os ss lk { dst := d, op := .build t ps, type := ty, pos := pos, after := af, guard := g } K f H = stpY P T md os ss lk { dst := d, op := .build t ps, type := ty, pos := pos, after := af, guard := g } K f H := stpM_stpY (by simp)
@[go_sem] theorem stpY_build {t : TypeId} {ps : Array (Nat × Operand)} : stpY P T md os ss lk { dst := d, op := .build t ps, type := ty, pos := pos, after := af, guard := g } K f H = stpL P T md os ss lk { dst := d, op := .build t ps, type := ty, pos := pos, after := af, guard := g } K f H := stpY_stpL (by simp)
@[go_sem] theorem stpM_pick {x y z : Operand} : stpM P T md os ss lk { dst := d, op := .pick x y z, type := ty, pos := pos, after := af, guard := g } K f H = stpY P T md os ss lk { dst := d, op := .pick x y z, type := ty, pos := pos, after := af, guard := g } K f H := stpM_stpY (by simp)
@[go_sem] theorem stpY_pick {x y z : Operand} : stpY P T md os ss lk { dst := d, op := .pick x y z, type := ty, pos := pos, after := af, guard := g } K f H = stpL P T md os ss lk { dst := d, op := .pick x y z, type := ty, pos := pos, after := af, guard := g } K f H := stpY_stpL (by simp)
@[go_sem] theorem stpM_alloc {t : TypeId} : stpM P T md os ss lk { dst := d, op := .alloc t, type := ty, pos := pos, after := af, guard := g } K f H = stpY P T md os ss lk { dst := d, op := .alloc t, type := ty, pos := pos, after := af, guard := g } K f H := stpM_stpY (by simp)
@[go_sem] theorem stpY_alloc {t : TypeId} : stpY P T md os ss lk { dst := d, op := .alloc t, type := ty, pos := pos, after := af, guard := g } K f H = stpL P T md os ss lk { dst := d, op := .alloc t, type := ty, pos := pos, after := af, guard := g } K f H := stpY_stpL (by simp)
@[go_sem] theorem stpM_box {t : TypeId} {x : Operand} : stpM P T md os ss lk { dst := d, op := .box t x, type := ty, pos := pos, after := af, guard := g } K f H = stpY P T md os ss lk { dst := d, op := .box t x, type := ty, pos := pos, after := af, guard := g } K f H := stpM_stpY (by simp)
@[go_sem] theorem stpY_box {t : TypeId} {x : Operand} : stpY P T md os ss lk { dst := d, op := .box t x, type := ty, pos := pos, after := af, guard := g } K f H = stpL P T md os ss lk { dst := d, op := .box t x, type := ty, pos := pos, after := af, guard := g } K f H := stpY_stpL (by simp)
@[go_sem] theorem stpM_convert {t u : TypeId} {x : Operand} : stpM P T md os ss lk { dst := d, op := .convert t u x, type := ty, pos := pos, after := af, guard := g } K f H = stpY P T md os ss lk { dst := d, op := .convert t u x, type := ty, pos := pos, after := af, guard := g } K f H := stpM_stpY (by simp)
@[go_sem] theorem stpY_convert {t u : TypeId} {x : Operand} : stpY P T md os ss lk { dst := d, op := .convert t u x, type := ty, pos := pos, after := af, guard := g } K f H = stpL P T md os ss lk { dst := d, op := .convert t u x, type := ty, pos := pos, after := af, guard := g } K f H := stpY_stpL (by simp)
@[go_sem] theorem stpM_typeAssert {t u : TypeId} {x : Operand} {c : Bool} : stpM P T md os ss lk { dst := d, op := .typeAssert x t u c, type := ty, pos := pos, after := af, guard := g } K f H = stpY P T md os ss lk { dst := d, op := .typeAssert x t u c, type := ty, pos := pos, after := af, guard := g } K f H := stpM_stpY (by simp)
@[go_sem] theorem stpY_typeAssert {t u : TypeId} {x : Operand} {c : Bool} : stpY P T md os ss lk { dst := d, op := .typeAssert x t u c, type := ty, pos := pos, after := af, guard := g } K f H = stpL P T md os ss lk { dst := d, op := .typeAssert x t u c, type := ty, pos := pos, after := af, guard := g } K f H := stpY_stpL (by simp)
@[go_sem] theorem stpM_makeInterface {t : TypeId} {x : Operand} : stpM P T md os ss lk { dst := d, op := .makeInterface t x, type := ty, pos := pos, after := af, guard := g } K f H = stpY P T md os ss lk { dst := d, op := .makeInterface t x, type := ty, pos := pos, after := af, guard := g } K f H := stpM_stpY (by simp)
@[go_sem] theorem stpY_makeInterface {t : TypeId} {x : Operand} : stpY P T md os ss lk { dst := d, op := .makeInterface t x, type := ty, pos := pos, after := af, guard := g } K f H = stpL P T md os ss lk { dst := d, op := .makeInterface t x, type := ty, pos := pos, after := af, guard := g } K f H := stpY_stpL (by simp)
@[go_sem] theorem stpM_field {t : TypeId} {x : Operand} {n : Nat} : stpM P T md os ss lk { dst := d, op := .field t x n, type := ty, pos := pos, after := af, guard := g } K f H = stpY P T md os ss lk { dst := d, op := .field t x n, type := ty, pos := pos, after := af, guard := g } K f H := stpM_stpY (by simp)
@[go_sem] theorem stpY_field {t : TypeId} {x : Operand} {n : Nat} : stpY P T md os ss lk { dst := d, op := .field t x n, type := ty, pos := pos, after := af, guard := g } K f H = stpL P T md os ss lk { dst := d, op := .field t x n, type := ty, pos := pos, after := af, guard := g } K f H := stpY_stpL (by simp)
@[go_sem] theorem stpM_lookup {t : TypeId} {x y : Operand} {c : Bool} : stpM P T md os ss lk { dst := d, op := .lookup t x y c, type := ty, pos := pos, after := af, guard := g } K f H = stpY P T md os ss lk { dst := d, op := .lookup t x y c, type := ty, pos := pos, after := af, guard := g } K f H := stpM_stpY (by simp)
@[go_sem] theorem stpY_lookup {t : TypeId} {x y : Operand} {c : Bool} : stpY P T md os ss lk { dst := d, op := .lookup t x y c, type := ty, pos := pos, after := af, guard := g } K f H = stpL P T md os ss lk { dst := d, op := .lookup t x y c, type := ty, pos := pos, after := af, guard := g } K f H := stpY_stpL (by simp)
@[go_sem] theorem stpM_nilCheck {x : Operand} : stpM P T md os ss lk { dst := d, op := .nilCheck x, type := ty, pos := pos, after := af, guard := g } K f H = stpY P T md os ss lk { dst := d, op := .nilCheck x, type := ty, pos := pos, after := af, guard := g } K f H := stpM_stpY (by simp)
@[go_sem] theorem stpY_nilCheck {x : Operand} : stpY P T md os ss lk { dst := d, op := .nilCheck x, type := ty, pos := pos, after := af, guard := g } K f H = stpL P T md os ss lk { dst := d, op := .nilCheck x, type := ty, pos := pos, after := af, guard := g } K f H := stpY_stpL (by simp)
end
end Cp
namespace Cp
open Go
section
variable {P : Program} {T : Tab} {md : Me} {os : List Oper} {K : Fr → Hp → Prop} {f : Fr} {H H' : Hp} {d : Option Tmp} {ty : TypeId} {pos : String} {af : Array Edge} {g : Option (Nat × Bool)} {ss lk : List Nat}
theorem stpG_stpM {o : Oper} (h : ∀ a, o.op ≠ .call a) : stpG P T md os ss lk o K f H = stpM P T md os ss lk o K f H := by
 unfold stpG
 split
 ·rename_i h1 _; exact absurd h1 (h _)
 ·rename_i h1 _; exact absurd h1 (h _)
 ·rfl
@[go_sem] theorem stpG_move {x : Operand} : stpG P T md os ss lk { dst := d, op := .move x, type := ty, pos := pos, after := af, guard := g } K f H = stpM P T md os ss lk { dst := d, op := .move x, type := ty, pos := pos, after := af, guard := g } K f H := stpG_stpM (by simp)
@[go_sem] theorem stpG_assign {x : Operand} : stpG P T md os ss lk { dst := d, op := .assign x, type := ty, pos := pos, after := af, guard := g } K f H = stpM P T md os ss lk { dst := d, op := .assign x, type := ty, pos := pos, after := af, guard := g } K f H := stpG_stpM (by simp)
@[go_sem] theorem stpG_load {t : TypeId} {x : Operand} : stpG P T md os ss lk { dst := d, op := .load t x, type := ty, pos := pos, after := af, guard := g } K f H = stpM P T md os ss lk { dst := d, op := .load t x, type := ty, pos := pos, after := af, guard := g } K f H := stpG_stpM (by simp)
@[go_sem] theorem stpG_store {t : TypeId} {x y : Operand} : stpG P T md os ss lk { dst := d, op := .store t x y, type := ty, pos := pos, after := af, guard := g } K f H = stpM P T md os ss lk { dst := d, op := .store t x y, type := ty, pos := pos, after := af, guard := g } K f H := stpG_stpM (by simp)
@[go_sem] theorem stpG_unOp {p : UnOp} {t : TypeId} {x : Operand} : stpG P T md os ss lk { dst := d, op := .unOp p t x, type := ty, pos := pos, after := af, guard := g } K f H = stpM P T md os ss lk { dst := d, op := .unOp p t x, type := ty, pos := pos, after := af, guard := g } K f H := stpG_stpM (by simp)
@[go_sem] theorem stpG_fieldAddr {t : TypeId} {x : Operand} {n : Nat} : stpG P T md os ss lk { dst := d, op := .fieldAddr t x n, type := ty, pos := pos, after := af, guard := g } K f H = stpM P T md os ss lk { dst := d, op := .fieldAddr t x n, type := ty, pos := pos, after := af, guard := g } K f H := stpG_stpM (by simp)
@[go_sem] theorem stpG_binOp {p : BinOp} {t u : TypeId} {x y : Operand} : stpG P T md os ss lk { dst := d, op := .binOp p t x y u, type := ty, pos := pos, after := af, guard := g } K f H = stpM P T md os ss lk { dst := d, op := .binOp p t x y u, type := ty, pos := pos, after := af, guard := g } K f H := stpG_stpM (by simp)
@[go_sem] theorem stpG_indexAddr {t : TypeId} {x y : Operand} : stpG P T md os ss lk { dst := d, op := .indexAddr t x y, type := ty, pos := pos, after := af, guard := g } K f H = stpM P T md os ss lk { dst := d, op := .indexAddr t x y, type := ty, pos := pos, after := af, guard := g } K f H := stpG_stpM (by simp)
@[go_sem] theorem stpG_extract {x : Operand} {n : Nat} : stpG P T md os ss lk { dst := d, op := .extract x n, type := ty, pos := pos, after := af, guard := g } K f H = stpM P T md os ss lk { dst := d, op := .extract x n, type := ty, pos := pos, after := af, guard := g } K f H := stpG_stpM (by simp)
@[go_sem] theorem stpG_build {t : TypeId} {ps : Array (Nat × Operand)} : stpG P T md os ss lk { dst := d, op := .build t ps, type := ty, pos := pos, after := af, guard := g } K f H = stpM P T md os ss lk { dst := d, op := .build t ps, type := ty, pos := pos, after := af, guard := g } K f H := stpG_stpM (by simp)
@[go_sem] theorem stpG_pick {x y z : Operand} : stpG P T md os ss lk { dst := d, op := .pick x y z, type := ty, pos := pos, after := af, guard := g } K f H = stpM P T md os ss lk { dst := d, op := .pick x y z, type := ty, pos := pos, after := af, guard := g } K f H := stpG_stpM (by simp)
@[go_sem] theorem stpG_alloc {t : TypeId} : stpG P T md os ss lk { dst := d, op := .alloc t, type := ty, pos := pos, after := af, guard := g } K f H = stpM P T md os ss lk { dst := d, op := .alloc t, type := ty, pos := pos, after := af, guard := g } K f H := stpG_stpM (by simp)
@[go_sem] theorem stpG_box {t : TypeId} {x : Operand} : stpG P T md os ss lk { dst := d, op := .box t x, type := ty, pos := pos, after := af, guard := g } K f H = stpM P T md os ss lk { dst := d, op := .box t x, type := ty, pos := pos, after := af, guard := g } K f H := stpG_stpM (by simp)
@[go_sem] theorem stpG_convert {t u : TypeId} {x : Operand} : stpG P T md os ss lk { dst := d, op := .convert t u x, type := ty, pos := pos, after := af, guard := g } K f H = stpM P T md os ss lk { dst := d, op := .convert t u x, type := ty, pos := pos, after := af, guard := g } K f H := stpG_stpM (by simp)
@[go_sem] theorem stpG_typeAssert {t u : TypeId} {x : Operand} {c : Bool} : stpG P T md os ss lk { dst := d, op := .typeAssert x t u c, type := ty, pos := pos, after := af, guard := g } K f H = stpM P T md os ss lk { dst := d, op := .typeAssert x t u c, type := ty, pos := pos, after := af, guard := g } K f H := stpG_stpM (by simp)
@[go_sem] theorem stpG_makeInterface {t : TypeId} {x : Operand} : stpG P T md os ss lk { dst := d, op := .makeInterface t x, type := ty, pos := pos, after := af, guard := g } K f H = stpM P T md os ss lk { dst := d, op := .makeInterface t x, type := ty, pos := pos, after := af, guard := g } K f H := stpG_stpM (by simp)
@[go_sem] theorem stpG_field {t : TypeId} {x : Operand} {n : Nat} : stpG P T md os ss lk { dst := d, op := .field t x n, type := ty, pos := pos, after := af, guard := g } K f H = stpM P T md os ss lk { dst := d, op := .field t x n, type := ty, pos := pos, after := af, guard := g } K f H := stpG_stpM (by simp)
@[go_sem] theorem stpG_lookup {t : TypeId} {x y : Operand} {c : Bool} : stpG P T md os ss lk { dst := d, op := .lookup t x y c, type := ty, pos := pos, after := af, guard := g } K f H = stpM P T md os ss lk { dst := d, op := .lookup t x y c, type := ty, pos := pos, after := af, guard := g } K f H := stpG_stpM (by simp)
@[go_sem] theorem stpG_nilCheck {x : Operand} : stpG P T md os ss lk { dst := d, op := .nilCheck x, type := ty, pos := pos, after := af, guard := g } K f H = stpM P T md os ss lk { dst := d, op := .nilCheck x, type := ty, pos := pos, after := af, guard := g } K f H := stpG_stpM (by simp)
@[go_sem] theorem stpG_call0 {h : Operand} {xs : Array Operand} {ts : Array TypeId} : stpG P T md os ss lk { dst := d, op := .call { callee := .value h, args := xs, argTypes := ts }, type := ty, pos := pos, after := af, guard := none } K f H = stpM P T md os ss lk { dst := d, op := .call { callee := .value h, args := xs, argTypes := ts }, type := ty, pos := pos, after := af, guard := none } K f H := rfl
@[go_sem] theorem stpG_callG {h : Operand} {xs : Array Operand} {ts : Array TypeId} {j : Nat} {b : Bool} : stpG P T md os ss lk { dst := d, op := .call { callee := .value h, args := xs, argTypes := ts }, type := ty, pos := pos, after := af, guard := some (j, b) } K f H = yvG P d K f H (xs.toList.map (ev f)) b ((opd os j).map f) (stpM P T md os ss lk { dst := d, op := .call { callee := .value h, args := xs, argTypes := ts }, type := ty, pos := pos, after := af, guard := some (j, b) } K f H) (ev f h) := rfl
@[go_sem] theorem stpG_inv0 {r : Operand} {m : String} {xs : Array Operand} {ts : Array TypeId} : stpG P T md os ss lk { dst := d, op := .call { callee := .invoke r m, args := xs, argTypes := ts }, type := ty, pos := pos, after := af, guard := none } K f H = stpM P T md os ss lk { dst := d, op := .call { callee := .invoke r m, args := xs, argTypes := ts }, type := ty, pos := pos, after := af, guard := none } K f H := rfl
@[go_sem] theorem stpG_invG {r : Operand} {m : String} {xs : Array Operand} {ts : Array TypeId} {j : Nat} {b : Bool} : stpG P T md os ss lk { dst := d, op := .call { callee := .invoke r m, args := xs, argTypes := ts }, type := ty, pos := pos, after := af, guard := some (j, b) } K f H = gdK b (metK P md d K f H m (xs.toList.map (ev f)) (ev f r)) (K (put f d (.tup [])) H) ((opd os j).map f) := rfl
@[go_sem] theorem stpG_builtin {b : Builtin} {xs : Array Operand} {ts : Array TypeId} : stpG P T md os ss lk { dst := d, op := .call { callee := .builtin b, args := xs, argTypes := ts }, type := ty, pos := pos, after := af, guard := g } K f H = stpM P T md os ss lk { dst := d, op := .call { callee := .builtin b, args := xs, argTypes := ts }, type := ty, pos := pos, after := af, guard := g } K f H := by cases g <;> rfl
@[go_sem] theorem stpY_callG {h : Operand} {xs : Array Operand} {ts : Array TypeId} {j : Nat} {b : Bool} : stpY P T md os ss lk { dst := d, op := .call { callee := .value h, args := xs, argTypes := ts }, type := ty, pos := pos, after := af, guard := some (j, b) } K f H = stpL P T md os ss lk { dst := d, op := .call { callee := .value h, args := xs, argTypes := ts }, type := ty, pos := pos, after := af, guard := some (j, b) } K f H := rfl
@[go_sem] theorem yvG_yld {xs : List Val} {b : Bool} {gv : Option Val} {r : Prop} {k e : Nat} : yvG P d K f H xs b gv r (.yld k e) = gdK b (yldK P d K f H k e xs) (K (put f d (.tup [])) H) gv := rfl
@[go_sem] theorem yvG_fn {xs : List Val} {b : Bool} {gv : Option Val} {r : Prop} {i : FuncId} {cs : List Val} : yvG P d K f H xs b gv r (.fn i cs) = r := rfl
@[go_sem] theorem yvG_tup {xs : List Val} {b : Bool} {gv : Option Val} {r : Prop} {vs : List Val} : yvG P d K f H xs b gv r (.tup vs) = r := rfl
@[go_sem] theorem gdK_bool {b c : Bool} {A B : Prop} : gdK b A B (some (.bool c)) = if c = b then A else B := rfl
@[go_sem] theorem gdK_skip {b : Bool} {A B : Prop} : gdK b A B (some (.tup [])) = B := rfl
end
theorem AW_cutC {P : Program} {ro : Option Nat} {X : Cx} {c : Code} {Q : Exit → Fr → Hp → Prop} {f : Fr} {H : Hp} (n : Nat) (h : ∀ H' : Hp, (∀ j, j < n → H' j = H j) → (∀ j, n ≤ j → H' j = none) → AW P ro X c Q f H') : AW P ro X c Q f H :=
 AW_drop (fun j => if j < n then H j else none) (fun j => by
  by_cases hj : j < n
  ·exact .inr (if_pos hj)
  ·exact .inl (if_neg hj)) (h _ (fun j hj => if_pos hj) fun j hj => if_neg (by omega))
@[go_sem] theorem fzd_nilpC {H : Hp} {n : Nat} : fzd H n .nilp = .nilp := by cases n <;> rfl
def slAr (n : Nat) (cs : List Val) : Option TI → Option Val
 | some ei => if ei.sz = 1 ∧ n ≤ cs.length then some (.lst 1 ((cs.take n).map fun c => [c])) else none
 | none => none
@[go_sem] theorem slAr_some {n s b : Nat} {cs : List Val} {k : TK} {z : Val} {p : Bool} : slAr n cs (some { kind := k, sz := s, bytes := b, zero := z, plain := p }) = if s = 1 ∧ n ≤ cs.length then some (.lst 1 ((cs.take n).map fun c => [c])) else none := rfl
@[go_sem] theorem xsliceK_arr {T : Tab} {H : Hp} {n et : Nat} {cs : List Val} : xsliceK T H (.pim cs) none none none (.array n et) = slAr n cs (T et) := by
 simp only [xsliceK, slAr]
 cases T et <;> rfl
attribute [go_sem] List.take_succ_cons List.take_zero List.map_cons List.map_nil
end Cp
namespace Cp
open Go
section
variable {P : Program} {T : Tab} {md : Me} {os : List Oper} {K : Fr → Hp → Prop} {f : Fr} {H : Hp} {d : Option Tmp} {ty : TypeId} {pos : String} {af : Array Edge} {g : Option (Nat × Bool)} {ss lk : List Nat}
 {s b : Nat} {z : Val} {p : Bool}
def lkF2 (z : Val) : Option (Option (Nat × Val)) → Option Val
 | none => none
 | some none => some (.tup [z, .bool false])
 | some (some (_, v)) => some (.tup [v, .bool true])
@[go_sem] theorem lkF2_no : lkF2 z (some none) = some (.tup [z, .bool false]) := rfl
@[go_sem] theorem lkF2_yes {i : Nat} {v : Val} : lkF2 z (some (some (i, v))) = some (.tup [v, .bool true]) := rfl
def lkH2 (T : Tab) (kt : TypeId) (key : Val) (z : Val) (e : Nat) (ck : Bool) : Option (Nat × AObj) → Option Val
 | some (e', .map _ es) => if e = e' ∧ ck = true then lkF2 z (xfind T kt key es 0) else none
 | some (e', .frm _ es) => if e = e' ∧ ck = true then lkF2 z (xfind T kt key es 0) else none
 | _ => none
@[go_sem] theorem lkH2_map {kt : TypeId} {key : Val} {e e' ver : Nat} {ck : Bool} {es : List (Val × Val)} : lkH2 T kt key z e ck (some (e', .map ver es)) = if e = e' ∧ ck = true then lkF2 z (xfind T kt key es 0) else none := rfl
@[go_sem] theorem lkH2_frm {kt : TypeId} {key : Val} {e e' ver : Nat} {ck : Bool} {es : List (Val × Val)} : lkH2 T kt key z e ck (some (e', .frm ver es)) = if e = e' ∧ ck = true then lkF2 z (xfind T kt key es 0) else none := rfl
def lkU2 (T : Tab) (H : Hp) (kt : TypeId) (key : Val) (k e : Nat) : Option TI → Option TI → Option Val
 | some ki, some vi => lkH2 T kt key vi.zero e (xck T 8 ki key) (H k)
 | _, _ => none
@[go_sem] theorem lkU2_some {kt : TypeId} {key : Val} {k e : Nat} {ki vi : TI} : lkU2 T H kt key k e (some ki) (some vi) = lkH2 T kt key vi.zero e (xck T 8 ki key) (H k) := rfl
def lkU (T : Tab) (H : Hp) (key : Val) (k e : Nat) : Option TI → Option Val
 | some { kind := .map kt vt, .. } => lkU2 T H kt key k e (T kt) (T vt)
 | _ => none
@[go_sem] theorem lkU_map {key : Val} {k e kt vt : Nat} : lkU T H key k e (some { kind := .map kt vt, sz := s, bytes := b, zero := z, plain := p }) = lkU2 T H kt key k e (T kt) (T vt) := rfl
@[go_sem] theorem xlookup_two {t : TypeId} {k e : Nat} {key : Val} : xlookup T H t (.map k e) key true = lkU T H key k e (T t) := by
 unfold xlookup lkU
 cases T t with
 | none => rfl
 | some ti =>
  obtain ⟨kind, _, _, _, _⟩ := ti
  cases kind <;> try rfl
  rename_i kt vt
  simp only [lkU2]
  cases T kt with
  | none => rfl
  | some ki =>
   cases T vt with
   | none => rfl
   | some vi =>
    simp only
    have hF : ∀ es : List (Val × Val), (match xfind T kt key es 0 with | none => none | some none => some (if true = true then Val.tup [vi.zero, .bool false] else vi.zero) | some (some (_, v)) => some (if true = true then Val.tup [v, .bool true] else v)) = lkF2 vi.zero (xfind T kt key es 0) := fun es => by
     cases xfind T kt key es 0 with
     | none => rfl
     | some q => cases q <;> rfl
    cases hc : xck T 8 ki key with
    | false =>
     cases H k with
     | none => rfl
     | some q => obtain ⟨e', o⟩ := q; cases o <;> simp [lkH2]
    | true =>
     cases H k with
     | none => rfl
     | some q =>
      obtain ⟨e', o⟩ := q
      cases o <;> try rfl
      all_goals
       by_cases he : e = e'
       ·subst he; simp only [if_true, lkH2, and_self]; exact hF _
       ·simp [lkH2, he]
def miT (t : TypeId) (x : Val) : Option TI → Option Val
 | some ti => match ti.kind with | .iface => none | _ => some (.iface t x)
 | none => none
@[go_sem] theorem xmakeInterface_eq {t : TypeId} {x : Val} : xmakeInterface T t x = miT t x (T t) := by
 unfold xmakeInterface miT
 cases T t <;> rfl
@[go_sem] theorem miT_struct {t : TypeId} {x : Val} {fs : List (Nat × Nat)} : miT t x (some { kind := .struct fs, sz := s, bytes := b, zero := z, plain := p }) = some (.iface t x) := rfl
def taT (x : Val) (t : TypeId) (ok : Bool) : Option TI → Option Val
 | some ti => match x with
  | .iface u v => match ti.kind with
   | .iface => none
   | _ => if u = t then some (if ok then .tup [v, .bool true] else v) else if ok then some (.tup [ti.zero, .bool false]) else none
  | _ => none
 | none => none
@[go_sem] theorem xtypeAssert_eq {x : Val} {t : TypeId} {ok : Bool} : xtypeAssert T x t ok = taT x t ok (T t) := by
 unfold xtypeAssert taT
 cases T t with
 | none => rfl
 | some ti => cases x <;> rfl
@[go_sem] theorem taT_struct {u t : TypeId} {v : Val} {fs : List (Nat × Nat)} : taT (.iface u v) t true (some { kind := .struct fs, sz := s, bytes := b, zero := z, plain := p }) = if u = t then some (.tup [v, .bool true]) else some (.tup [z, .bool false]) := by
 simp [taT]
end
@[go_sem] theorem ev_shows {f : Fr} : ev f (.global 0) = .pim [.fn 160 [], .fn 161 []] := rfl
end Cp
namespace Cp
open Go Go.Proofs
set_option maxRecDepth 10000
theorem in1_ok (lo hi n : Int) : PureC Tryz.prog 79 [.int .i64 n, .pim [.int .i64 lo], .pim [.int .i64 hi]] (.bool (!decide (lo ≤ n ∧ n ≤ hi))) := by
 refine PureC_of (fn := Tryz.f79) tabOK (by kernel_rfl) rfl (by kernel_rfl) (by simp [Tryz.f79]) (by simp [noids, noid, noidss, go_sem]) (by first | rfl | simp [noids, noid, noidss, go_sem]) ?_
 intro X hX0 hXs
 repeat' (first | with_reducible (first | (refine sk ?_; intro K hK) | apply_assumption -exfalso -symm only [*]) | ((with_reducible first | refine rg (h := ?_) | refine nx ?_); try simp (disch := omega) only [go_sem, simprocAttr]) | ((with_reducible refine grdS_split ?_ ?_) <;> intro hg <;> (try simp (disch := omega) only [hg, go_sem, simprocAttr]) <;> (try simp only [go_sem, simprocAttr] at hg) <;> (try (exfalso; omega))) | ((with_reducible refine fe ?_); refine ⟨_, (by simp only [Tryz.f79, go_sem, simprocAttr]; rfl), ?_⟩; (try simp only [go_sem, simprocAttr, seval])) | fail)
 ·simp; omega
 ·rw [Bool.eq_iff_iff]; simp; omega
theorem indexInt_ok (xs : List Int) (hx : xs.length ≤ 4611686018427387904) (g : FuncId) (caps : List Val) (hc : noids caps = true) (p : Int → Bool) (hp : ∀ x ∈ xs, PureC Tryz.prog g (.int .i64 x :: caps) (.bool (p x))) :
  PureC Tryz.prog 48 [.lst 1 (ints xs), .fn g caps] (.int .i64 (idxFrom p xs 0)) := by
 refine PureC_of (fn := Tryz.f48) tabOK (by kernel_rfl) rfl (by kernel_rfl) (by simp [Tryz.f48]) (by simp [noids, noid, noidss, go_sem, hc]) (by first | rfl | simp [noids, noid, noidss, go_sem, hc]) ?_
 intro X hX0 hXs
 repeat' (first | with_reducible (first | (refine sk ?_; intro K hK) | apply_assumption -exfalso -symm only [*]) | ((with_reducible refine rg (h := ?_)); try simp (disch := omega) only [go_sem, simprocAttr]) | fail)
 refine AW_range tabOK xs.length (fun k f H => f 0 = .lst 1 (ints xs) ∧ f 1 = .fn g caps ∧ H = none0 ∧ idxFrom p xs 0 = idxFrom p (xs.drop k) k) hx (by rw [hXs]; decide) (by decide) (by simp only [go_sem, simprocAttr]) (by simp only [go_sem, simprocAttr]) ⟨by simp only [go_sem, simprocAttr], by simp only [go_sem, simprocAttr], rfl, by simp⟩ ?_ ?_
 ·rintro k f H hk h8 h7 ⟨h0, h1, rfl, hr⟩
  obtain ⟨x, hx⟩ : ∃ x, xs[k]? = some x := ⟨_, List.getElem?_eq_getElem hk⟩
  repeat' (first | with_reducible (first | (refine sk ?_; intro K hK) | apply_assumption -exfalso -symm only [*]) | ((first | (with_reducible first | refine rg (h := ?_) | refine nx ?_) | refine pK (hp x (List.mem_of_getElem? hx)) ?_); try simp (disch := omega) only [h0, h1, h8, h7, hx,go_sem, simprocAttr]) | ((with_reducible refine' cE ?hv ?_ ?_); (case hv => rfl); all_goals (intro hc)) | ((with_reducible refine fe ?_); refine ⟨_, (by simp only [Tryz.f48, h0, h1, h8, h7, hx,go_sem, simprocAttr]; rfl), ?_⟩; (try simp only [h0, h1, h8, h7, hx,go_sem, simprocAttr, seval])) | fail)
  ·rw [hr, drop_cons hx]; simp [idxFrom, hc]
  ·rw [hr, drop_cons hx]; simp [idxFrom, hc]
 ·rintro f H h8 h7 ⟨h0, h1, rfl, hr⟩
  repeat' (first | with_reducible (first | (refine sk ?_; intro K hK) | apply_assumption -exfalso -symm only [*]) | ((with_reducible first | refine rg (h := ?_) | refine nx ?_); try simp (disch := omega) only [go_sem, simprocAttr]) | ((with_reducible refine fe ?_); refine ⟨_, (by simp only [Tryz.f48, go_sem, simprocAttr]; rfl), ?_⟩; (try simp only [go_sem, simprocAttr, seval])) | fail)
  rw [hr]; simp [idxFrom]
theorem containsInt_ok (xs : List Int) (hx : xs.length ≤ 4611686018427387904) (g : FuncId) (caps : List Val) (hc : noids caps = true) (p : Int → Bool) (hp : ∀ x ∈ xs, PureC Tryz.prog g (.int .i64 x :: caps) (.bool (p x))) :
  PureC Tryz.prog 78 [.lst 1 (ints xs), .fn g caps] (.bool (xs.any p)) := by
 refine PureC_of (fn := Tryz.f78) tabOK (by kernel_rfl) rfl (by kernel_rfl) (by simp [Tryz.f78]) (by simp [noids, noid, noidss, go_sem, hc]) (by first | rfl | simp [noids, noid, noidss, go_sem, hc]) ?_
 intro X hX0 hXs
 repeat' (first | with_reducible (first | (refine sk ?_; intro K hK) | apply_assumption -exfalso -symm only [*]) | ((first | (with_reducible first | refine rg (h := ?_) | refine nx ?_) | refine pK (indexInt_ok xs hx g caps hc p hp) ?_); try simp (disch := omega) only [go_sem, simprocAttr]) | ((with_reducible refine fe ?_); refine ⟨_, (by simp only [Tryz.f78, go_sem, simprocAttr]; rfl), ?_⟩; (try simp only [go_sem, simprocAttr, seval])) | fail)
 exact idxFrom_neg (Int.le_refl 0)
theorem in_ok (xs : List Int) (hx : xs.length ≤ 4611686018427387904) (lo hi : Int) : PureC Tryz.prog 59 [.int .i64 lo, .int .i64 hi, .lst 1 (ints xs)] (.bool (xs.all fun n => decide (lo ≤ n ∧ n ≤ hi))) := by
 refine PureC_of (fn := Tryz.f59) tabOK (by kernel_rfl) rfl (by kernel_rfl) (by simp [Tryz.f59]) (by simp [noids, noid, noidss, go_sem]) (by first | rfl | simp [noids, noid, noidss, go_sem]) ?_
 intro X hX0 hXs
 repeat' (first | with_reducible (first | (refine sk ?_; intro K hK) | apply_assumption -exfalso -symm only [*]) | ((first | (with_reducible first | refine rg (h := ?_) | refine nx ?_) | refine pK (containsInt_ok xs hx _ _ (by rfl) (fun n => !decide (lo ≤ n ∧ n ≤ hi)) (fun n _ => in1_ok lo hi n)) ?_); try simp (disch := omega) only [go_sem, simprocAttr]) | ((with_reducible refine fe ?_); refine ⟨_, (by simp only [Tryz.f59, go_sem, simprocAttr]; rfl), ?_⟩; (try simp only [go_sem, simprocAttr, seval])) | fail)
 simp [List.all_eq_not_any_not]
theorem in_1 (lo hi a : Int) : PureC Tryz.prog 59 [.int .i64 lo, .int .i64 hi, .lst 1 [[.int .i64 a]]] (.bool (decide (lo ≤ a ∧ a ≤ hi))) := by
 have := in_ok [a] (by simp) lo hi
 simpa [ints] using this
theorem in_2 (lo hi a b : Int) : PureC Tryz.prog 59 [.int .i64 lo, .int .i64 hi, .lst 1 [[.int .i64 a], [.int .i64 b]]] (.bool (decide ((lo ≤ a ∧ a ≤ hi) ∧ lo ≤ b ∧ b ≤ hi))) := by
 have := in_ok [a, b] (by simp) lo hi
 simpa [ints] using this
theorem ordered_ok (s : Span) (lo hi : Int) : PureC Tryz.prog 77 [.int .i64 lo, .int .i64 hi, encSpan s] (.bool (decide (lo ≤ s.lo ∧ s.lo ≤ s.hi ∧ s.hi ≤ hi))) := by
 refine PureC_of (fn := Tryz.f77) tabOK (by kernel_rfl) rfl (by kernel_rfl) (by simp [Tryz.f77]) (by simp [noids, noid, noidss, go_sem, encSpan]) (by first | rfl | simp [noids, noid, noidss, go_sem, encSpan]) ?_
 intro X hX0 hXs
 repeat' (first | with_reducible (first | (refine sk ?_; intro K hK) | apply_assumption -exfalso -symm only [*]) | ((first | (with_reducible first | refine rg (h := ?_) | refine nx ?_) | refine pK (in_2 _ _ _ _) ?_); try simp (disch := omega) only [encSpan,go_sem, simprocAttr]) | ((with_reducible refine grdS_split ?_ ?_) <;> intro hg <;> (try simp (disch := omega) only [hg, encSpan,go_sem, simprocAttr]) <;> (try simp only [go_sem, simprocAttr] at hg) <;> (try (exfalso; omega))) | ((with_reducible refine fe ?_); refine ⟨_, (by simp only [Tryz.f77, encSpan,go_sem, simprocAttr]; rfl), ?_⟩; (try simp only [encSpan,go_sem, simprocAttr, seval])) | fail)
 all_goals (rw [Bool.eq_iff_iff]; simp; omega)
theorem isNaN_ok (a : Int) : PureC Tryz.prog 134 [.int .i64 a] (.bool false) := by
 refine PureC_of (fn := Tryz.f134) tabOK (by kernel_rfl) rfl (by kernel_rfl) (by simp [Tryz.f134]) (by simp [noids, noid, noidss, go_sem]) (by first | rfl | simp [noids, noid, noidss, go_sem]) ?_
 intro X hX0 hXs
 repeat' (first | with_reducible (first | (refine sk ?_; intro K hK) | apply_assumption -exfalso -symm only [*]) | ((with_reducible first | refine rg (h := ?_) | refine nx ?_); try simp (disch := omega) only [go_sem, simprocAttr]) | ((with_reducible refine fe ?_); refine ⟨_, (by simp only [Tryz.f134, go_sem, simprocAttr]; rfl), ?_⟩; rfl) | fail)
 try simp
def cmpI (a b : Int) : Int := if a < b then -1 else if b < a then 1 else 0
theorem compare_ok (a b : Int) : PureC Tryz.prog 116 [.int .i64 a, .int .i64 b] (.int .i64 (cmpI a b)) := by
 refine PureC_of (fn := Tryz.f116) tabOK (by kernel_rfl) rfl (by kernel_rfl) (by simp [Tryz.f116]) (by simp [noids, noid, noidss, go_sem]) (by first | rfl | simp [noids, noid, noidss, go_sem]) ?_
 intro X hX0 hXs
 repeat' (first | with_reducible (first | (refine sk ?_; intro K hK) | apply_assumption -exfalso -symm only [*]) | ((first | (with_reducible first | refine rg (h := ?_) | refine nx ?_) | refine pK (isNaN_ok _) ?_); try simp (disch := omega) only [go_sem, simprocAttr]) | ((with_reducible refine' cE ?hv ?_ ?_); (case hv => rfl); all_goals (intro hc; (try simp only [go_sem, simprocAttr] at hc))) | ((with_reducible refine fe ?_); refine ⟨_, (by simp only [Tryz.f116, go_sem, simprocAttr]; rfl), ?_⟩; (try simp only [go_sem, simprocAttr, seval])) | fail)
 all_goals (simp only [cmpI]; grind)
end Cp
namespace Cp
open Go Go.Proofs
set_option maxRecDepth 10000
theorem rwithin_ok (n lo hi : Int) : PureC Tryz.prog 71 [.int .i64 n, .int .i64 lo, .int .i64 hi] (.bool (decide (lo ≤ n ∧ n ≤ hi))) := by
 refine PureC_of (fn := Tryz.f71) tabOK (by kernel_rfl) rfl (by kernel_rfl) (by simp [Tryz.f71]) (by simp [noids, noid, noidss, go_sem]) (by first | rfl | simp [noids, noid, noidss, go_sem]) ?_
 intro X hX0 hXs
 repeat' (first | with_reducible (first | (refine sk ?_; intro K hK) | apply_assumption -exfalso -symm only [*]) | ((with_reducible first | refine rg (h := ?_) | refine nx ?_); try simp (disch := omega) only [go_sem, simprocAttr]) | ((with_reducible refine grdS_split ?_ ?_) <;> intro hg <;> (try simp (disch := omega) only [hg, go_sem, simprocAttr]) <;> (try simp only [go_sem, simprocAttr] at hg) <;> (try (exfalso; omega))) | ((with_reducible refine fe ?_); refine ⟨_, (by simp only [Tryz.f71, go_sem, simprocAttr]; rfl), ?_⟩; (try simp only [go_sem, simprocAttr, seval])) | fail)
 all_goals (rw [Bool.eq_iff_iff]; simp; omega)
theorem rspanned_ok (s : Span) (lo hi : Int) : PureC Tryz.prog 119 [encSpan s, .int .i64 lo, .int .i64 hi] (.bool (decide (lo ≤ s.lo ∧ s.lo ≤ s.hi ∧ s.hi ≤ hi))) := by
 refine PureC_of (fn := Tryz.f119) tabOK (by kernel_rfl) rfl (by kernel_rfl) (by simp [Tryz.f119]) (by simp [noids, noid, noidss, go_sem, encSpan]) (by first | rfl | simp [noids, noid, noidss, go_sem, encSpan]) ?_
 intro X hX0 hXs
 repeat' (first | with_reducible (first | (refine sk ?_; intro K hK) | apply_assumption -exfalso -symm only [*]) | ((with_reducible first | refine rg (h := ?_) | refine nx ?_); try simp (disch := omega) only [encSpan,go_sem, simprocAttr]) | ((with_reducible refine grdS_split ?_ ?_) <;> intro hg <;> (try simp (disch := omega) only [hg, encSpan,go_sem, simprocAttr]) <;> (try simp only [go_sem, simprocAttr] at hg) <;> (try (exfalso; omega))) | ((with_reducible refine fe ?_); refine ⟨_, (by simp only [Tryz.f119, encSpan,go_sem, simprocAttr]; rfl), ?_⟩; (try simp only [encSpan,go_sem, simprocAttr, seval])) | fail)
 all_goals (rw [Bool.eq_iff_iff]; simp; omega)
theorem samePoints_ok (a b : List Pt) (ha : a.length ≤ 4611686018427387904) : PureC Tryz.prog 73 [.lst 2 (a.map cPt), .lst 2 (b.map cPt)] (.bool (decide (a = b))) := by
 refine PureC_of (fn := Tryz.f73) tabOK (by kernel_rfl) rfl (by kernel_rfl) (by simp [Tryz.f73]) (by simp [noids, noid, noidss, go_sem]) (by first | rfl | simp [noids, noid, noidss, go_sem]) ?_
 intro X hX0 hXs
 repeat' (first | with_reducible (first | (refine sk ?_; intro K hK) | apply_assumption -exfalso -symm only [*]) | ((with_reducible first | refine rg (h := ?_) | refine nx ?_); try simp (disch := omega) only [go_sem, simprocAttr]) | ((with_reducible refine' cE ?hv ?_ ?_); (case hv => rfl); all_goals (intro hc; (try simp only [go_sem, simprocAttr] at hc))) | ((with_reducible refine fe ?_); refine ⟨_, (by simp only [Tryz.f73, go_sem, simprocAttr]; rfl), ?_⟩; (try simp only [go_sem, simprocAttr, seval])) | fail)
 ·have : a ≠ b := fun e => by subst e; omega
  simp [this]
 ·have hab : a.length = b.length := by omega
  refine AW_block (AW_loop (fun n f H => ∃ k : Nat, n = a.length - k ∧ k ≤ a.length ∧ (f 0 = .lst 2 (a.map cPt) ∧ f 1 = .lst 2 (b.map cPt) ∧ f 5 = .int .i64 k ∧ H = none0) ∧ (decide (a = b) = decide (a.drop k = b.drop k))) a.length
   ⟨0, by simp, Nat.zero_le _, by (and_intros <;> first | rfl | (simp only [go_sem, simprocAttr]; done) | (simp only [go_sem, simprocAttr]; rfl)), by simp⟩ ?_)
  rintro n f H ⟨k, rfl, hk, ⟨h0, h1, h5, rfl⟩, hr⟩
  by_cases hlt : k < a.length
  ·obtain ⟨x, hx⟩ : ∃ x, a[k]? = some x := ⟨_, List.getElem?_eq_getElem hlt⟩
   obtain ⟨y, hy⟩ : ∃ y, b[k]? = some y := ⟨_, List.getElem?_eq_getElem (by omega)⟩
   repeat' (first | with_reducible (first | (refine sk ?_; intro K hK) | refine bk ?_ | apply_assumption -exfalso -symm only [*]) | ((with_reducible first | refine rg (h := ?_) | refine nx ?_); try simp (disch := omega) only [h0, h1, h5, hx, hy, cPt,go_sem, simprocAttr]) | ((with_reducible refine' cE ?hv ?_ ?_); (case hv => rfl); all_goals (intro hc; (try simp only [go_sem, simprocAttr] at hc); try (exfalso; omega))) | ((with_reducible refine fe ?_); refine ⟨_, (by simp only [Tryz.f73, h0, h1, h5, hx, hy, cPt,go_sem, simprocAttr]; rfl), ?_⟩; (try simp only [h0, h1, h5, hx, hy, cPt,go_sem, simprocAttr, seval])) | fail)
   ·rw [hr, drop_cons hx, drop_cons hy]; simp [pt_eq] at hc ⊢; intro h1 h2; simp_all
   ·refine ⟨_, ?_, k + 1, rfl, by omega, by (and_intros <;> first | rfl | (simp only [h0, h1, h5, go_sem, simprocAttr]; done) | (simp only [h0, h1, h5, go_sem, simprocAttr]; rfl)), ?_⟩
    ·omega
    ·rw [hr, drop_cons hx, drop_cons hy]; simp [pt_eq] at hc ⊢; simp [hc]
  ·repeat' (first | with_reducible (first | (refine sk ?_; intro K hK) | apply_assumption -exfalso -symm only [*]) | ((with_reducible first | refine rg (h := ?_) | refine nx ?_); try simp (disch := omega) only [h0, h1, h5,go_sem, simprocAttr]) | ((with_reducible refine' cE ?hv ?_ ?_); (case hv => rfl); all_goals (intro hc; (try simp only [go_sem, simprocAttr] at hc); try (exfalso; omega))) | ((with_reducible refine fe ?_); refine ⟨_, (by simp only [Tryz.f73, h0, h1, h5,go_sem, simprocAttr]; rfl), ?_⟩; (try simp only [h0, h1, h5,go_sem, simprocAttr, seval])) | fail)
   rw [hr]; simp [drop_none (show b.length ≤ k by omega), drop_none (show a.length ≤ k by omega)]
theorem rcurve_ok (l : List Pt) (hl : l.length ≤ 4611686018427387904) : PureC Tryz.prog 118 [.lst 2 (l.map cPt)] (.bool (curveOK l)) := by
 refine PureC_of (fn := Tryz.f118) tabOK (by kernel_rfl) rfl (by kernel_rfl) (by simp [Tryz.f118]) (by simp [noids, noid, noidss, go_sem]) (by first | rfl | simp [noids, noid, noidss, go_sem]) ?_
 intro X hX0 hXs
 by_cases hne : l = []
 ·subst hne
  repeat' (first | with_reducible (first | (refine sk ?_; intro K hK) | apply_assumption -exfalso -symm only [*]) | ((first | (with_reducible first | refine rg (h := ?_) | refine nx ?_) | refine pK (rwithin_ok _ _ _) ?_); try simp (disch := omega) only [go_sem, simprocAttr]) | ((with_reducible refine' cE ?hv ?_ ?_); (case hv => rfl); all_goals (intro hc; (try simp only [go_sem, simprocAttr] at hc))) | ((with_reducible refine fe ?_); refine ⟨_, (by simp only [Tryz.f118, go_sem, simprocAttr]; rfl), ?_⟩; rfl) | fail)
  try rfl
 ·obtain ⟨p0, hp0⟩ : ∃ x, l[0]? = some x := ⟨_, List.getElem?_eq_getElem (List.length_pos_iff.2 hne)⟩
  repeat' (first | with_reducible (first | (refine sk ?_; intro K hK) | apply_assumption -exfalso -symm only [*]) | ((first | (with_reducible first | refine rg (h := ?_) | refine nx ?_) | refine pK (rwithin_ok _ _ _) ?_); try simp (disch := omega) only [hp0, cPt,go_sem, simprocAttr]) | ((with_reducible refine' cE ?hv ?_ ?_); (case hv => rfl); all_goals (intro hc; (try simp only [go_sem, simprocAttr] at hc))) | ((with_reducible refine grdS_split ?_ ?_) <;> intro hg <;> (try simp (disch := omega) only [hg, hp0, cPt,go_sem, simprocAttr]) <;> (try simp only [go_sem, simprocAttr] at hg) <;> (try (exfalso; omega))) | ((with_reducible refine fe ?_); refine ⟨_, (by simp only [Tryz.f118, hp0, cPt,go_sem, simprocAttr]; rfl), ?_⟩; (try simp only [hp0, cPt,go_sem, simprocAttr, seval])) | fail)
  all_goals first | grind [curveOK_iff hp0] | skip
  ·have e0 : curveOK l = curveFrom ⟨-1, 0⟩ l := by rw [curveOK_iff hp0]; simp [hc]; omega
   refine AW_block (AW_loop (fun n f H => ∃ k : Nat, n = l.length - k ∧ k ≤ l.length ∧ (f 0 = .lst 2 (l.map cPt) ∧ f 3 = .int .i64 k ∧ H = none0) ∧ ∃ a : Pt, (k = 0 → a = ⟨-1, 0⟩) ∧ (∀ j, k = j + 1 → l[j]? = some a) ∧ -1 ≤ a.m ∧ 0 ≤ a.d ∧ a.m ≤ 600 ∧ curveOK l = curveFrom a (l.drop k)) l.length
    ⟨0, by simp, Nat.zero_le _, by (and_intros <;> first | rfl | (simp only [go_sem, simprocAttr]; done) | (simp only [go_sem, simprocAttr]; rfl)), ⟨-1, 0⟩, by simp, by simp, by simp, by simp, by simp, e0⟩ ?_)
   rintro n f H ⟨k, rfl, hk, ⟨h0, h3, rfl⟩, a, ha0, ha1, ha2, ha3, ha4, hr⟩
   by_cases hlt : k < l.length
   ·obtain ⟨x, hx⟩ : ∃ x, l[k]? = some x := ⟨_, List.getElem?_eq_getElem hlt⟩
    rw [drop_cons hx] at hr
    simp only [curveFrom] at hr
    rcases k with _ | j
    ·obtain rfl := ha0 rfl
     repeat' (first | with_reducible (first | (refine sk ?_; intro K hK) | refine bk ?_ | apply_assumption -exfalso -symm only [*]) | ((first | (with_reducible first | refine rg (h := ?_) | refine nx ?_) | refine pK (rwithin_ok _ _ _) ?_); try simp (disch := omega) only [h0, h3, hx, cPt,go_sem, simprocAttr]) | ((with_reducible refine' cE ?hv ?_ ?_); (case hv => rfl); all_goals (intro hc; (try simp only [go_sem, simprocAttr] at hc); try (exfalso; omega))) | ((with_reducible refine grdS_split ?_ ?_) <;> intro hg <;> (try simp (disch := omega) only [hg, h0, h3, hx, cPt,go_sem, simprocAttr]) <;> (try simp only [go_sem, simprocAttr] at hg) <;> (try (exfalso; omega))) | ((with_reducible refine fe ?_); refine ⟨_, (by simp only [Tryz.f118, h0, h3, hx, cPt,go_sem, simprocAttr]; rfl), ?_⟩; (try simp only [h0, h3, hx, cPt,go_sem, simprocAttr, seval])) | fail)
     ·grind
     ·grind
     ·refine ⟨_, ?_, 0 + 1, rfl, by omega, by (and_intros <;> first | rfl | (simp only [h0, h3, go_sem, simprocAttr]; done) | (simp only [h0, h3, go_sem, simprocAttr]; rfl)), x, ?_⟩
      ·omega
      ·grind
    ·have haj := ha1 j rfl
     repeat' (first | with_reducible (first | (refine sk ?_; intro K hK) | refine bk ?_ | apply_assumption -exfalso -symm only [*]) | ((first | (with_reducible first | refine rg (h := ?_) | refine nx ?_) | refine pK (rwithin_ok _ _ _) ?_); try simp (disch := omega) only [h0, h3, hx, haj, cPt,go_sem, simprocAttr]) | ((with_reducible refine' cE ?hv ?_ ?_); (case hv => rfl); all_goals (intro hc; (try simp only [go_sem, simprocAttr] at hc); try (exfalso; omega))) | ((with_reducible refine grdS_split ?_ ?_) <;> intro hg <;> (try simp (disch := omega) only [hg, h0, h3, hx, haj, cPt,go_sem, simprocAttr]) <;> (try simp only [go_sem, simprocAttr] at hg) <;> (try (exfalso; omega))) | ((with_reducible refine fe ?_); refine ⟨_, (by simp only [Tryz.f118, h0, h3, hx, haj, cPt,go_sem, simprocAttr]; rfl), ?_⟩; (try simp only [h0, h3, hx, haj, cPt,go_sem, simprocAttr, seval])) | fail)
     all_goals first | grind | skip
     refine ⟨_, ?_, j + 1 + 1, rfl, by omega, by (and_intros <;> first | rfl | (simp only [h0, h3, go_sem, simprocAttr]; done) | (simp only [h0, h3, go_sem, simprocAttr]; rfl)), x, ?_⟩
     ·omega
     ·grind
   ·repeat' (first | with_reducible (first | (refine sk ?_; intro K hK) | apply_assumption -exfalso -symm only [*]) | ((with_reducible first | refine rg (h := ?_) | refine nx ?_); try simp (disch := omega) only [h0, h3,go_sem, simprocAttr]) | ((with_reducible refine' cE ?hv ?_ ?_); (case hv => rfl); all_goals (intro hc; (try simp only [go_sem, simprocAttr] at hc); try (exfalso; omega))) | ((with_reducible refine fe ?_); refine ⟨_, (by simp only [Tryz.f118, h0, h3,go_sem, simprocAttr]; rfl), ?_⟩; (try simp only [h0, h3,go_sem, simprocAttr, seval])) | fail)
    rw [hr, drop_none (show l.length ≤ k by omega)]; rfl
end Cp
namespace Cp
open Go Go.Proofs
set_option maxRecDepth 10000
theorem curved_ok (l : List Pt) (hl : l.length ≤ 4611686018427387904) : PureC Tryz.prog 100 [.lst 2 (l.map cPt)] (.bool (curveOK l)) := by
 refine PureC_of (fn := Tryz.f100) tabOK (by kernel_rfl) rfl (by kernel_rfl) (by simp [Tryz.f100]) (by simp [noids, noid, noidss, go_sem]) (by first | rfl | simp [noids, noid, noidss, go_sem]) ?_
 intro X hX0 hXs
 repeat' (first | with_reducible (first | (refine sk ?_; intro K hK) | intro (ep : Nat → Nat) | apply_assumption -exfalso -symm only [*]) | ((with_reducible refine rg (h := ?_)); try simp (disch := omega) only [go_sem, simprocAttr]) | fail)
 refine AW_range tabOK l.length (fun k f H => f 0 = .lst 2 (l.map cPt) ∧ f 7 = .lst 2 (l.map cPt) ∧ ∃ e a, f 3 = .ptr 3 e 2 0 0 ∧ H 3 = some (e, .arr 2 [cPt a]) ∧ -1 ≤ a.m ∧ 0 ≤ a.d ∧ a.m ≤ 600 ∧ curveFrom ⟨-1, 0⟩ l = curveFrom a (l.drop k)) hl (by rw [hXs]; decide) (by decide) (by simp only [go_sem, simprocAttr]) (by simp only [go_sem, simprocAttr]) ⟨by simp only [go_sem, simprocAttr], by simp only [go_sem, simprocAttr], _, ⟨-1, 0⟩, by simp only [go_sem, simprocAttr]; rfl, by simp only [go_sem, simprocAttr]; rfl, by simp, by simp, by simp, by simp⟩ ?_ ?_
 ·rintro k f H hk h9 h8 ⟨h0, h7, e, a, h3, hH, ha1, ha2, ha3, hr⟩
  obtain ⟨x, hx⟩ : ∃ x, l[k]? = some x := ⟨_, List.getElem?_eq_getElem hk⟩
  refine AW_keep [3] ?_
  repeat' (first | with_reducible (first | (refine sk ?_; intro K hK) | intro (ep : Nat → Nat) | apply_assumption -exfalso -symm only [*]) | ((first | (with_reducible first | refine rg (h := ?_) | refine nx ?_) | refine pK (in_1 _ _ _) ?_); try simp (disch := omega) only [h0, h3, h7, h8, h9, hx, hH, cPt,go_sem, simprocAttr]) | ((with_reducible refine' cE ?hv ?_ ?_); (case hv => rfl); all_goals (intro hc; (try simp only [go_sem, simprocAttr] at hc))) | ((with_reducible refine grdS_split ?_ ?_) <;> intro hg <;> (try simp (disch := omega) only [hg, h0, h3, h7, h8, h9, hx, hH, cPt,go_sem, simprocAttr]) <;> (try simp only [go_sem, simprocAttr] at hg) <;> (try (exfalso; omega))) | ((with_reducible refine fe ?_); refine ⟨_, (by simp only [Tryz.f100, h0, h3, h7, h8, h9, hx, hH, cPt,go_sem, simprocAttr]; rfl), ?_⟩; (try simp only [h0, h3, h7, h8, h9, hx, hH, cPt,go_sem, simprocAttr, seval])) | fail)
  ·refine curveOK_false ?_
   rw [hr, drop_cons hx, curveFrom]; simp; omega
  ·refine curveOK_false ?_
   rw [hr, drop_cons hx, curveFrom]; simp; omega
  ·refine ⟨e, x, rfl, rfl, by omega, by omega, by omega, ?_⟩
   rw [hr, drop_cons hx, curveFrom]; simp; omega
 ·rintro f H h9 h8 ⟨h0, h7, e, a, h3, hH, ha1, ha2, ha3, hr⟩
  have hr' : curveFrom ⟨-1, 0⟩ l = true := by rw [hr, drop_none (Nat.le_refl _)]; rfl
  cases l with
  | nil =>
   repeat' (first | with_reducible (first | (refine sk ?_; intro K hK) | apply_assumption -exfalso -symm only [*]) | ((first | (with_reducible first | refine rg (h := ?_) | refine nx ?_) | refine pK (in_1 _ _ _) ?_); try simp (disch := omega) only [h0,go_sem, simprocAttr]) | ((with_reducible refine fe ?_); refine ⟨_, (by simp only [Tryz.f100, h0,go_sem, simprocAttr]; rfl), ?_⟩; rfl) | fail)
   try rfl
  | cons p l =>
   repeat' (first | with_reducible (first | (refine sk ?_; intro K hK) | apply_assumption -exfalso -symm only [*]) | ((first | (with_reducible first | refine rg (h := ?_) | refine nx ?_) | refine pK (in_1 _ _ _) ?_); try simp (disch := omega) only [h0, cPt,go_sem, simprocAttr]) | ((with_reducible refine grdS_split ?_ ?_) <;> intro hg <;> (try simp (disch := omega) only [hg, h0, cPt,go_sem, simprocAttr]) <;> (try simp only [go_sem, simprocAttr] at hg) <;> (try (exfalso; omega))) | ((with_reducible refine fe ?_); refine ⟨_, (by simp only [Tryz.f100, h0, cPt,go_sem, simprocAttr]; rfl), ?_⟩; (try simp only [h0, cPt,go_sem, simprocAttr, seval])) | fail)
   all_goals (rw [curveOK_iff (p := p) rfl, hr']; grind)
theorem degree1_ok (p : Pt) (m : Int) : PureC Tryz.prog 123 [.agg (cPt p), .int .i64 m] (.int .i64 (cmpI p.m m)) := by
 refine PureC_of (fn := Tryz.f123) tabOK (by kernel_rfl) rfl (by kernel_rfl) (by simp [Tryz.f123]) (by simp [noids, noid, noidss, go_sem, cPt]) (by first | rfl | simp [noids, noid, noidss, go_sem, cPt]) ?_
 intro X hX0 hXs
 repeat' (first | with_reducible (first | (refine sk ?_; intro K hK) | apply_assumption -exfalso -symm only [*]) | ((first | (with_reducible first | refine rg (h := ?_) | refine nx ?_) | refine pK (compare_ok _ _) ?_); try simp (disch := omega) only [cPt,go_sem, simprocAttr]) | ((with_reducible refine fe ?_); refine ⟨_, (by simp only [Tryz.f123, cPt,go_sem, simprocAttr]; rfl), ?_⟩; rfl) | fail)
theorem wrapu64 {n : Int} (h : 0 ≤ n ∧ n ≤ 9223372036854775807) : IntKind.u64.wrap n = n := by
 rw [IntKind.wrap_u64]; omega
theorem shr1 {n : Int} (h : 0 ≤ n) : n.fdiv (2 ^ min (Int.toNat 1) (IntKind.bits .u64)) = n / 2 := by
 have : (2 : Int) ^ min (Int.toNat 1) (IntKind.bits .u64) = 2 := by decide
 rw [this, Int.fdiv_eq_ediv_of_nonneg _ (by omega)]
theorem shr1' {n : Int} (h : 0 ≤ n) : n.fdiv (2 ^ min 1 64) = n / 2 := by
 have : (2 : Int) ^ min 1 64 = 2 := by decide
 rw [this, Int.fdiv_eq_ediv_of_nonneg _ (by omega)]
theorem bsearch_ok (l : List Pt) (hl : l.length ≤ 1000000) (m : Int) (hs : ∀ (i j : Nat) (p q : Pt), i < j → l[i]? = some p → l[j]? = some q → p.m < q.m) :
  ∃ i : Nat, i ≤ l.length ∧ (∀ j p, j < i → l[j]? = some p → p.m < m) ∧ (∀ j p, i ≤ j → l[j]? = some p → m ≤ p.m) ∧
  PureC Tryz.prog 122 [.lst 2 (l.map cPt), .int .i64 m, .fn 123 []] (.tup [.int .i64 i, .bool (l[i]?.any fun p => decide (p.m = m))]) := by
 obtain ⟨i, hi, h1, h2⟩ : ∃ i : Nat, i ≤ l.length ∧ (∀ j p, j < i → l[j]? = some p → p.m < m) ∧ (∀ j p, i ≤ j → l[j]? = some p → m ≤ p.m) := by
  clear hl
  induction l with
  | nil => exact ⟨0, by simp, by simp, by simp⟩
  | cons a l ih =>
   obtain ⟨i, q1, q2, q3⟩ := ih fun i j p q hij hi hj => hs (i + 1) (j + 1) p q (by omega) (by simpa using hi) (by simpa using hj)
   by_cases ha : a.m < m
   ·refine ⟨i + 1, by simpa using q1, fun j p hj hp => ?_, fun j p hj hp => ?_⟩
    ·cases j with
     | zero => simp at hp; subst hp; exact ha
     | succ j => exact q2 j p (by omega) (by simpa using hp)
    ·cases j with
     | zero => omega
     | succ j => exact q3 j p (by omega) (by simpa using hp)
   ·refine ⟨0, by simp, fun j p hj => by omega, fun j p hj hp => ?_⟩
    cases j with
    | zero => simp at hp; subst hp; omega
    | succ j => have := hs 0 (j + 1) a p (by omega) rfl hp; omega
 refine ⟨i, hi, h1, h2, ?_⟩
 refine PureC_of (fn := Tryz.f122) tabOK (by kernel_rfl) rfl (by kernel_rfl) (by simp [Tryz.f122]) (by simp [noids, noid, noidss, go_sem]) (by first | rfl | simp [noids, noid, noidss, go_sem]) ?_
 intro X hX0 hXs
 repeat' (first | with_reducible (first | (refine sk ?_; intro K hK) | apply_assumption -exfalso -symm only [*]) | ((with_reducible refine rg (h := ?_)); try simp (disch := omega) only [go_sem, simprocAttr]) | fail)
 refine AW_block (AW_loop (fun n f H => ∃ a b : Nat, n = b - a ∧ a ≤ i ∧ i ≤ b ∧ b ≤ l.length ∧ (f 0 = .lst 2 (l.map cPt) ∧ f 1 = .int .i64 m ∧ f 2 = .fn 123 [] ∧ f 8 = .int .i64 l.length ∧ f 9 = .int .i64 a ∧ f 10 = .int .i64 b ∧ H = none0)) l.length
  ⟨0, l.length, by simp, by omega, by omega, by omega, by (and_intros <;> first | rfl | (simp only [go_sem, simprocAttr]; done) | (simp only [go_sem, simprocAttr]; rfl))⟩ ?_)
 rintro n f H ⟨a, b, rfl, ha, hb, hbl, ⟨h0, hf1, hf2, h8, h9, h10, rfl⟩⟩
 by_cases hlt : a < b
 ·obtain ⟨x, hx⟩ : ∃ x, l[(a + b) / 2]? = some x := ⟨_, List.getElem?_eq_getElem (by omega)⟩
  have e1 : IntKind.i64.wrap ((a : Int) + b) = ((a + b : Nat) : Int) := by rw [wrap64 (by omega)]; omega
  have e2 : IntKind.u64.wrap ((a + b : Nat) : Int) = ((a + b : Nat) : Int) := wrapu64 (by omega)
  have e3 : (((a + b : Nat) : Int)).fdiv (2 ^ min 1 64) = (((a + b) / 2 : Nat) : Int) := by rw [shr1' (by omega)]; omega
  have e4 : IntKind.i64.wrap (((a + b) / 2 : Nat) : Int) = (((a + b) / 2 : Nat) : Int) := wrap64 (by omega)
  have e5 : IntKind.i64.wrap ((((a + b) / 2 + 1 : Nat)) : Int) = (((a + b) / 2 + 1 : Nat) : Int) := wrap64 (by omega)
  repeat' (first | with_reducible (first | (refine sk ?_; intro K hK) | refine bk ?_ | apply_assumption -exfalso -symm only [*]) | ((first | (with_reducible first | refine rg (h := ?_) | refine nx ?_) | refine pK (degree1_ok _ _) ?_); try simp (disch := omega) only [h0, hf1, hf2, h8, h9, h10, hx, e1, e2, e3, e4, e5, cPt,go_sem, simprocAttr]) | ((with_reducible refine' cE ?hv ?_ ?_); (case hv => rfl); all_goals (intro hc; (try simp only [go_sem, simprocAttr] at hc); try (exfalso; omega))) | fail)
  ·have hlt' : x.m < m := by grind [cmpI]
   have : (a + b) / 2 < i := by
    rcases Nat.lt_or_ge ((a + b) / 2) i with h | h
    ·exact h
    ·have := h2 _ _ h hx; omega
   exact ⟨b - ((a + b) / 2 + 1), by omega, _, _, rfl, by omega, by omega, by omega, rfl, rfl⟩
  ·have hlt' : ¬ x.m < m := by grind [cmpI]
   have : i ≤ (a + b) / 2 := by
    rcases Nat.lt_or_ge ((a + b) / 2) i with h | h
    ·have := h1 _ _ h hx; omega
    ·exact h
   exact ⟨(a + b) / 2 - a, by omega, _, _, rfl, by omega, by omega, by omega, rfl, rfl⟩
 ·obtain rfl : a = i := by omega
  obtain rfl : b = a := by omega
  by_cases hbl : b < l.length
  ·obtain ⟨x, hx⟩ : ∃ x, l[b]? = some x := ⟨_, List.getElem?_eq_getElem hbl⟩
   repeat' (first | with_reducible (first | (refine sk ?_; intro K hK) | apply_assumption -exfalso -symm only [*]) | ((first | (with_reducible first | refine rg (h := ?_) | refine nx ?_) | refine pK (degree1_ok _ _) ?_); try simp (disch := omega) only [h0, hf1, hf2, h8, h9, h10, hx, cPt,go_sem, simprocAttr]) | ((with_reducible refine' cE ?hv ?_ ?_); (case hv => rfl); all_goals (intro hc; (try simp only [go_sem, simprocAttr] at hc); try (exfalso; omega))) | ((with_reducible refine grdS_split ?_ ?_) <;> intro hg <;> (try simp (disch := omega) only [hg, h0, hf1, hf2, h8, h9, h10, hx, cPt,go_sem, simprocAttr]) <;> (try simp only [go_sem, simprocAttr] at hg) <;> (try (exfalso; omega))) | ((with_reducible refine fe ?_); refine ⟨_, (by simp only [Tryz.f122, h0, hf1, hf2, h8, h9, h10, hx, cPt,go_sem, simprocAttr]; rfl), ?_⟩; (try simp only [h0, hf1, hf2, h8, h9, h10, hx, cPt,go_sem, simprocAttr, seval])) | fail)
   simp only [Option.any_some]; rw [Bool.eq_iff_iff]; grind [cmpI]
  ·repeat' (first | with_reducible (first | (refine sk ?_; intro K hK) | apply_assumption -exfalso -symm only [*]) | ((with_reducible first | refine rg (h := ?_) | refine nx ?_); try simp (disch := omega) only [h0, hf1, hf2, h8, h9, h10,go_sem, simprocAttr]) | ((with_reducible refine' cE ?hv ?_ ?_); (case hv => rfl); all_goals (intro hc; (try simp only [go_sem, simprocAttr] at hc); try (exfalso; omega))) | ((with_reducible refine grdS_split ?_ ?_) <;> intro hg <;> (try simp (disch := omega) only [hg, h0, hf1, hf2, h8, h9, h10,go_sem, simprocAttr]) <;> (try simp only [go_sem, simprocAttr] at hg) <;> (try (exfalso; omega))) | ((with_reducible refine fe ?_); refine ⟨_, (by simp only [Tryz.f122, h0, hf1, hf2, h8, h9, h10,go_sem, simprocAttr]; rfl), ?_⟩; (try simp only [h0, hf1, hf2, h8, h9, h10,go_sem, simprocAttr, seval])) | fail)
   rw [List.getElem?_eq_none (by omega)]; rfl
end Cp
namespace Cp
open Go Go.Proofs
set_option maxRecDepth 10000
theorem degree_ok (l : List Pt) (hc : CurveF l) (m : Int) (hm : 0 ≤ m) (hm2 : m ≤ lastM l) : PureC Tryz.prog 106 [.lst 2 (l.map cPt), .int .i64 m] (.int .i64 (degAt l m)) := by
 obtain ⟨i, hi, q1, q2, hB⟩ := bsearch_ok l (by have := hc.len; omega) m (fun i j p q h1 h2 h3 => (hc.inc i j p q h1 h2 h3).1)
 have hlen := hc.len
 have hil : i < l.length := by
  rcases Nat.lt_or_ge i l.length with h | h
  ·exact h
  ·obtain ⟨z, hz⟩ : ∃ z, l[l.length - 1]? = some z := ⟨_, List.getElem?_eq_getElem (by omega)⟩
   have h1 := q1 _ _ (show l.length - 1 < i by omega) hz
   rw [lastM_get hz] at hm2
   omega
 obtain ⟨b, hb⟩ : ∃ b, l[i]? = some b := ⟨_, List.getElem?_eq_getElem hil⟩
 obtain ⟨d1, d2⟩ := degAt_at hc q1 hb
 rw [hb] at hB
 simp only [Option.any_some] at hB
 have hbm := q2 i b (Nat.le_refl _) hb
 have hbb := hc.all _ _ hb
 refine PureC_of (fn := Tryz.f106) tabOK (by kernel_rfl) rfl (by kernel_rfl) (by simp [Tryz.f106]) (by simp [noids, noid, noidss, go_sem]) (by first | rfl | simp [noids, noid, noidss, go_sem]) ?_
 intro X hX0 hXs
 by_cases he : b.m = m
 ·repeat' (first | with_reducible (first | (refine sk ?_; intro K hK) | apply_assumption -exfalso -symm only [*]) | ((first | (with_reducible first | refine rg (h := ?_) | refine nx ?_) | refine pK (hB) ?_); try simp (disch := omega) only [hb, cPt,go_sem, simprocAttr]) | ((with_reducible refine' cE ?hv ?_ ?_); (case hv => rfl); all_goals (intro hc; (try simp only [go_sem, simprocAttr] at hc); try (exfalso; omega))) | ((with_reducible refine fe ?_); refine ⟨_, (by simp only [Tryz.f106, hb, cPt,go_sem, simprocAttr]; rfl), ?_⟩; (try simp only [hb, cPt,go_sem, simprocAttr, seval])) | fail)
  exact (d1 he).symm
 ·obtain ⟨p0, hp0, hp1⟩ := hc.zero
  obtain ⟨k, rfl⟩ : ∃ k, i = k + 1 := by
   cases i with
   | zero => rw [hp0] at hb; cases hb; omega
   | succ k => exact ⟨k, rfl⟩
  obtain ⟨a, ha⟩ : ∃ a, l[k]? = some a := ⟨_, List.getElem?_eq_getElem (by omega)⟩
  have hab := hc.inc k (k + 1) a b (by omega) ha hb
  have haa := hc.all _ _ ha
  have ham := q1 k a (by omega) ha
  have hdeg := d2 k a rfl ha (by omega)
  have hne : ¬ b.m - a.m = 0 := by omega
  obtain ⟨b1, b2⟩ := interp_bounds haa hbb hab.2 (by omega) (show m < b.m by omega)
  repeat' (first | with_reducible (first | (refine sk ?_; intro K hK) | intro (ep : Nat → Nat) | apply_assumption -exfalso -symm only [*]) | ((first | (with_reducible first | refine rg (h := ?_) | refine rgS [7, 8] (h := ?_) | refine nx ?_) | refine pK (hB) ?_); try simp (disch := omega) only [hb, ha, cPt, hne,go_sem, simprocAttr]) | ((with_reducible refine' cE ?hv ?_ ?_); (case hv => rfl); all_goals (intro hc; (try simp only [go_sem, simprocAttr] at hc); try (exfalso; omega))) | ((with_reducible refine fe ?_); refine ⟨_, (by simp only [Tryz.f106, hb, ha, cPt, hne,go_sem, simprocAttr]; rfl), ?_⟩; (try simp only [hb, ha, cPt, hne,go_sem, simprocAttr, seval])) | fail)
  rw [hdeg]; rfl
theorem rdegree_ok (l : List Pt) (hc : CurveF l) (m : Int) (hm : 0 ≤ m) (hm2 : m ≤ 600) : PureC Tryz.prog 94 [.lst 2 (l.map cPt), .int .i64 m] (.int .i64 (degAt l m)) := by
 obtain ⟨p0, hp0, hp1⟩ := hc.zero
 have hlen := hc.len
 have e0 : degAt l m = degFrom p0 (l.drop 1) m := by
  cases l with
  | nil => cases hp0
  | cons p l => cases hp0; rfl
 refine PureC_of (fn := Tryz.f94) tabOK (by kernel_rfl) rfl (by kernel_rfl) (by simp [Tryz.f94]) (by simp [noids, noid, noidss, go_sem]) (by first | rfl | simp [noids, noid, noidss, go_sem]) ?_
 intro X hX0 hXs
 repeat' (first | with_reducible (first | (refine sk ?_; intro K hK) | apply_assumption -exfalso -symm only [*]) | ((with_reducible refine rg (h := ?_)); try simp (disch := omega) only [go_sem, simprocAttr]) | fail)
 refine AW_block (AW_loop (fun n f H => ∃ k : Nat, n = l.length - k ∧ k + 1 ≤ l.length ∧ (f 0 = .lst 2 (l.map cPt) ∧ f 1 = .int .i64 m ∧ f 5 = .int .i64 ((k + 1 : Nat) : Int)) ∧ ∃ a : Pt, l[k]? = some a ∧ a.m ≤ m ∧ degAt l m = degFrom a (l.drop (k + 1)) m) l.length
  ⟨0, by simp, by omega, by (and_intros <;> first | rfl | (simp only [go_sem, simprocAttr]; done) | (simp only [go_sem, simprocAttr]; rfl)), p0, hp0, by omega, e0⟩ ?_)
 rintro n f H ⟨k, rfl, hk, ⟨h0, hf1, h5⟩, a, ha, ham, hr⟩
 have haa := hc.all _ _ ha
 by_cases hlt : k + 1 < l.length
 ·obtain ⟨b, hb⟩ : ∃ b, l[k + 1]? = some b := ⟨_, List.getElem?_eq_getElem hlt⟩
  have hab := hc.inc k (k + 1) a b (by omega) ha hb
  have hbb := hc.all _ _ hb
  have hne : ¬ b.m - a.m = 0 := by omega
  rw [drop_cons hb] at hr
  simp only [degFrom] at hr
  refine AW_keep [] ?_
  by_cases hmb : m < b.m
  ·obtain ⟨b1, b2⟩ := interp_bounds haa hbb hab.2 (by omega) hmb
   repeat' (first | with_reducible (first | (refine sk ?_; intro K hK) | refine bk ?_ | intro (ep : Nat → Nat) | apply_assumption -exfalso -symm only [*]) | ((with_reducible first | refine rg (h := ?_) | refine rgS [6, 7] (h := ?_) | refine nx ?_); try simp (disch := omega) only [h0, hf1, h5, ha, hb, hne, cPt,go_sem, simprocAttr]) | ((with_reducible refine' cE ?hv ?_ ?_); (case hv => rfl); all_goals (intro hc; (try simp only [go_sem, simprocAttr] at hc); try (exfalso; omega))) | ((with_reducible refine fe ?_); refine ⟨_, (by simp only [Tryz.f94, h0, hf1, h5, ha, hb, hne, cPt,go_sem, simprocAttr]; rfl), ?_⟩; (try simp only [h0, hf1, h5, ha, hb, hne, cPt,go_sem, simprocAttr, seval])) | fail)
   rw [hr, if_pos hmb]
  ·repeat' (first | with_reducible (first | (refine sk ?_; intro K hK) | refine bk ?_ | intro (ep : Nat → Nat) | apply_assumption -exfalso -symm only [*]) | ((with_reducible first | refine rg (h := ?_) | refine rgS [6, 7] (h := ?_) | refine nx ?_); try simp (disch := omega) only [h0, hf1, h5, ha, hb, hne, cPt,go_sem, simprocAttr]) | ((with_reducible refine' cE ?hv ?_ ?_); (case hv => rfl); all_goals (intro hc; (try simp only [go_sem, simprocAttr] at hc); try (exfalso; omega))) | fail)
   refine ⟨l.length - (k + 1), by omega, k + 1, rfl, by omega, rfl, b, hb, by omega, ?_⟩
   rw [hr, if_neg hmb]
 ·have e1 : ((l.length : Int) - 1) = (k : Int) := by omega
  repeat' (first | with_reducible (first | (refine sk ?_; intro K hK) | apply_assumption -exfalso -symm only [*]) | ((with_reducible first | refine rg (h := ?_) | refine nx ?_); try simp (disch := omega) only [h0, hf1, h5, ha, e1, cPt,go_sem, simprocAttr]) | ((with_reducible refine' cE ?hv ?_ ?_); (case hv => rfl); all_goals (intro hc; (try simp only [go_sem, simprocAttr] at hc); try (exfalso; omega))) | ((with_reducible refine fe ?_); refine ⟨_, (by simp only [Tryz.f94, h0, hf1, h5, ha, e1, cPt,go_sem, simprocAttr]; rfl), ?_⟩; (try simp only [h0, hf1, h5, ha, e1, cPt,go_sem, simprocAttr, seval])) | fail)
  rw [hr, drop_none (show l.length ≤ k + 1 by omega)]; rfl
end Cp
namespace Cp
open Go Go.Proofs
set_option maxRecDepth 10000
theorem ran_ok (r : RunT) (hb : RunB r) : PureC Tryz.prog 76 [encRun r] (.bool (runOK r)) := by
  refine PureC_of (fn := Tryz.f76) tabOK (by kernel_rfl) rfl (by kernel_rfl) (by simp [Tryz.f76]) (by simp [noids, noid, noidss, go_sem, encRun, cRun]) (by first | rfl | simp [noids, noid, noidss, go_sem, encRun, cRun]) ?_
  intro X hX0 hXs
  by_cases hcv : curveOK r.curve = true
  · have hF := curve_facts hcv
    have hlen := hF.len
    obtain ⟨z, hz⟩ : ∃ z, r.curve[r.curve.length - 1]? = some z := ⟨_, List.getElem?_eq_getElem (by have := hF.len; omega)⟩
    have hzm := lastM_get hz
    have e1 : ((r.curve.length : Int) - 1) = ((r.curve.length - 1 : Nat) : Int) := by have := hF.len; omega
    repeat' (first | with_reducible (first | (refine sk ?_; intro K hK) | refine bk ?_ | apply_assumption -exfalso -symm only [*]) | ((first | (with_reducible first | refine rg (h := ?_) | refine nx ?_) | refine pK (in_1 _ _ _) ?_ | refine pK (curved_ok r.curve hb.curve) ?_ | refine pK (ordered_ok r.gauge _ _) ?_); try simp (disch := omega) only [hcv, hz, e1, encRun, cRun, cPt,go_sem, simprocAttr]) | ((with_reducible refine' cE ?hv ?_ ?_); (case hv => rfl); all_goals (intro hc; (try simp only [go_sem, simprocAttr] at hc))) | ((with_reducible refine grdS_split ?_ ?_) <;> intro hg <;> (try simp (disch := omega) only [hg, hcv, hz, e1, encRun, cRun, cPt,go_sem, simprocAttr]) <;> (try simp only [go_sem, simprocAttr] at hg) <;> (try (exfalso; omega))) | ((with_reducible refine fe ?_); refine ⟨_, (by simp only [Tryz.f76, hcv, hz, e1, encRun, cRun, cPt,go_sem, simprocAttr]; rfl), ?_⟩; (try simp only [hcv, hz, e1, encRun, cRun, cPt,go_sem, simprocAttr, seval])) | fail)
    iterate 4 (rw [runOK_head]; simp only [headOK, decide_eq_false_iff_not]; omega)
    have hh : headOK r = true := by simp only [headOK, decide_eq_true_eq]; omega
    have hR := runOK_eq hcv hh
    refine AW_range tabOK r.cpls.length (fun k f H => f 1 = .pim (cRun r) ∧ f 53 = .lst 6 (r.cpls.map cCpl) ∧ ∃ last, f 3 = .int .i64 last ∧ -1 ≤ last ∧ last ≤ 9999 ∧ cplsFrom (-1) r.cpls = cplsFrom last (r.cpls.drop k)) hb.cpls (by rw [hXs]; decide) (by decide) (by simp only [go_sem, simprocAttr]) (by simp only [go_sem, simprocAttr])
      ⟨by simp only [go_sem, simprocAttr, cRun], by simp only [go_sem, simprocAttr], -1, by simp only [go_sem, simprocAttr], by omega, by omega, by simp⟩ ?_ ?_
    · rintro k f H hk h55 h54 ⟨h1, h53, last, h3, hl1, hl2, hr⟩
      obtain ⟨x, hx⟩ : ∃ x, r.cpls[k]? = some x := ⟨_, List.getElem?_eq_getElem hk⟩
      rw [drop_cons hx] at hr
      simp only [cplsFrom] at hr
      refine AW_keep [] ?_
      repeat' (first | with_reducible (first | (refine sk ?_; intro K hK) | intro (ep : Nat → Nat) | apply_assumption -exfalso -symm only [*]) | ((first | (with_reducible first | refine rg (h := ?_) | refine nx ?_) | refine pK (in_1 _ _ _) ?_ | refine pK (ordered_ok x.err _ _) ?_ | refine pK (ordered_ok x.lag _ _) ?_); try simp (disch := omega) only [h1, h3, h53, h54, h55, hx, cRun, cCpl,go_sem, simprocAttr]) | ((with_reducible refine' cE ?hv ?_ ?_); (case hv => rfl); all_goals (intro hc; (try simp only [go_sem, simprocAttr] at hc))) | ((with_reducible refine grdS_split ?_ ?_) <;> intro hg <;> (try simp (disch := omega) only [hg, h1, h3, h53, h54, h55, hx, cRun, cCpl,go_sem, simprocAttr]) <;> (try simp only [go_sem, simprocAttr] at hg) <;> (try (exfalso; omega))) | ((with_reducible refine fe ?_); refine ⟨_, (by simp only [Tryz.f76, h1, h3, h53, h54, h55, hx, cRun, cCpl,go_sem, simprocAttr]; rfl), ?_⟩; (try simp only [h1, h3, h53, h54, h55, hx, cRun, cCpl,go_sem, simprocAttr, seval])) | fail)
      iterate 4 (have : cplOK last x = false := by (simp only [cplOK, decide_eq_false_iff_not]; omega)
                 rw [hR, hr, this]; simp)
      have : cplOK last x = true := by simp only [cplOK, decide_eq_true_eq]; omega
      refine ⟨x.id, rfl, by omega, by omega, ?_⟩
      rw [hr, this]; simp
    · rintro f H h55 h54 ⟨h1, h53, last, h3, hl1, hl2, hr⟩
      have hcp : cplsFrom (-1) r.cpls = true := by rw [hr, drop_none (Nat.le_refl _)]; rfl
      simp only [hcp, Bool.true_and] at hR
      repeat' (first | with_reducible (first | (refine sk ?_; intro K hK) | apply_assumption -exfalso -symm only [*]) | ((with_reducible first | refine rg (h := ?_) | refine nx ?_); try simp (disch := omega) only [h1, cRun,go_sem, simprocAttr]) | fail)
      refine AW_range tabOK r.rows.length (fun k f H => f 1 = .pim (cRun r) ∧ f 89 = .lst 2 (r.rows.map cRow) ∧ f 6 = .bool true ∧ r.rows.all (rowOK r.cpls.length) = (r.rows.drop k).all (rowOK r.cpls.length)) hb.rows (by rw [hXs]; decide) (by decide) (by simp only [go_sem, simprocAttr]) (by simp only [go_sem, simprocAttr])
        ⟨by simp only [go_sem, simprocAttr, h1], by simp only [go_sem, simprocAttr], by simp only [go_sem, simprocAttr], by simp⟩ ?_ ?_
      · rintro k f H hk h91 h90 ⟨h1, h89, h6, hr⟩
        obtain ⟨x, hx⟩ : ∃ x, r.rows[k]? = some x := ⟨_, List.getElem?_eq_getElem hk⟩
        rw [drop_cons hx] at hr
        simp only [List.all_cons] at hr
        refine AW_keep [] ?_
        repeat' (first | with_reducible (first | (refine sk ?_; intro K hK) | intro (ep : Nat → Nat) | apply_assumption -exfalso -symm only [*]) | ((first | (with_reducible first | refine rg (h := ?_) | refine nx ?_) | refine pK (in_1 _ _ _) ?_ | refine pK (in_ok x.deg (hb.degs x (List.mem_of_getElem? hx)) _ _) ?_); try simp (disch := omega) only [h1, h89, h6, h90, h91, hx, cRun, cRow,go_sem, simprocAttr]) | ((with_reducible refine' cE ?hv ?_ ?_); (case hv => rfl); all_goals (intro hc; (try simp only [go_sem, simprocAttr] at hc))) | ((with_reducible refine grdS_split ?_ ?_) <;> intro hg <;> (try simp (disch := omega) only [hg, h1, h89, h6, h90, h91, hx, cRun, cRow,go_sem, simprocAttr]) <;> (try simp only [go_sem, simprocAttr] at hg) <;> (try (exfalso; omega))) | ((with_reducible refine fe ?_); refine ⟨_, (by simp only [Tryz.f76, h1, h89, h6, h90, h91, hx, cRun, cRow,go_sem, simprocAttr]; rfl), ?_⟩; (try simp only [h1, h89, h6, h90, h91, hx, cRun, cRow,go_sem, simprocAttr, seval])) | fail)
        · have : rowOK r.cpls.length x = false := by simp [rowOK]; intro h; omega
          rw [hR, hr, this]; simp
        · have : rowOK r.cpls.length x = false := by simp [rowOK]; intro h; omega
          rw [hR, hr, this]; simp
        · have : rowOK r.cpls.length x = false := by simp only [rowOK, degsOK, hc, Bool.and_false]
          rw [hR, hr, this]; simp
        · have : rowOK r.cpls.length x = true := by simp only [rowOK, degsOK, hc, Bool.and_true, decide_eq_true_eq]; omega
          rw [hr, this]; simp
      · rintro f H h91 h90 ⟨h1, h89, h6, hr⟩
        repeat' (first | with_reducible (first | (refine sk ?_; intro K hK) | apply_assumption -exfalso -symm only [*]) | ((with_reducible first | refine rg (h := ?_) | refine nx ?_); try simp (disch := omega) only [h6,go_sem, simprocAttr]) | ((with_reducible refine fe ?_); refine ⟨_, (by simp only [Tryz.f76, h6,go_sem, simprocAttr]; rfl), ?_⟩; (try simp only [h6,go_sem, simprocAttr, seval])) | fail)
        rw [hR, hr, drop_none (Nat.le_refl _)]; rfl
  · simp only [Bool.not_eq_true] at hcv
    repeat' (first | with_reducible (first | (refine sk ?_; intro K hK) | refine bk ?_ | apply_assumption -exfalso -symm only [*]) | ((first | (with_reducible first | refine rg (h := ?_) | refine nx ?_) | refine pK (in_1 _ _ _) ?_ | refine pK (curved_ok r.curve hb.curve) ?_); try simp (disch := omega) only [hcv, encRun, cRun,go_sem, simprocAttr]) | ((with_reducible refine' cE ?hv ?_ ?_); (case hv => rfl); all_goals (intro hc; (try simp only [go_sem, simprocAttr] at hc))) | ((with_reducible refine grdS_split ?_ ?_) <;> intro hg <;> (try simp (disch := omega) only [hg, hcv, encRun, cRun,go_sem, simprocAttr]) <;> (try simp only [go_sem, simprocAttr] at hg) <;> (try (exfalso; omega))) | ((with_reducible refine fe ?_); refine ⟨_, (by simp only [Tryz.f76, hcv, encRun, cRun,go_sem, simprocAttr]; rfl), ?_⟩; (try simp only [hcv, encRun, cRun,go_sem, simprocAttr, seval])) | fail)
    all_goals rw [runOK_curve hcv]
end Cp
namespace Cp
open Go Go.Proofs
set_option maxRecDepth 10000
theorem rrun_ok (r : RunT) (hb : RunB r) : PureC Tryz.prog 92 [encRun r] (.bool (runOK r)) := by
 have hb1 := hb.cpls
 have hb2 := hb.rows
 refine PureC_of (fn := Tryz.f92) tabOK (by kernel_rfl) rfl (by kernel_rfl) (by simp [Tryz.f92]) (by simp [noids, noid, noidss, go_sem, encRun, cRun]) (by first | rfl | simp [noids, noid, noidss, go_sem, encRun, cRun]) ?_
 intro X hX0 hXs
 by_cases hcv : curveOK r.curve = true
 ·have hF := curve_facts hcv
  have hlen := hF.len
  obtain ⟨z, hz⟩ : ∃ z, r.curve[r.curve.length - 1]? = some z := ⟨_, List.getElem?_eq_getElem (by omega)⟩
  have hzm := lastM_get hz
  have e1 : ((r.curve.length : Int) - 1) = ((r.curve.length - 1 : Nat) : Int) := by omega
  repeat' (first | with_reducible (first | (refine sk ?_; intro K hK) | apply_assumption -exfalso -symm only [*]) | ((first | (with_reducible first | refine rg (h := ?_) | refine nx ?_) | refine pK (rwithin_ok _ _ _) ?_ | refine pK (rcurve_ok r.curve hb.curve) ?_ | refine pK (rspanned_ok r.gauge _ _) ?_); try simp (disch := omega) only [hcv, hz, e1, encRun, cRun, cPt,go_sem, simprocAttr]) | ((with_reducible refine' cE ?hv ?_ ?_); (case hv => rfl); all_goals (intro hc; (try simp only [go_sem, simprocAttr] at hc))) | ((with_reducible refine grdS_split ?_ ?_) <;> intro hg <;> (try simp (disch := omega) only [hg, hcv, hz, e1, encRun, cRun, cPt,go_sem, simprocAttr]) <;> (try simp only [go_sem, simprocAttr] at hg) <;> (try (exfalso; omega))) | ((with_reducible refine fe ?_); refine ⟨_, (by simp only [Tryz.f92, hcv, hz, e1, encRun, cRun, cPt,go_sem, simprocAttr]; rfl), ?_⟩; (try simp only [hcv, hz, e1, encRun, cRun, cPt,go_sem, simprocAttr, seval])) | fail)
  iterate 5 (rw [runOK_head]; simp only [headOK, decide_eq_false_iff_not]; omega)
  have hh : headOK r = true := by simp only [headOK, decide_eq_true_eq]; omega
  have hR := runOK_eq hcv hh
  refine AW_block (AW_loop (fun n f H => ∃ k : Nat, n = r.cpls.length - k ∧ k ≤ r.cpls.length ∧ (f 1 = .pim (cRun r) ∧ f 3 = .int .i64 k) ∧ ∃ last, (k = 0 → last = -1) ∧ (∀ j, k = j + 1 → ∃ a, r.cpls[j]? = some a ∧ a.id = last) ∧ -1 ≤ last ∧ last ≤ 9999 ∧ cplsFrom (-1) r.cpls = cplsFrom last (r.cpls.drop k)) r.cpls.length
   ⟨0, by simp, Nat.zero_le _, by (and_intros <;> first | rfl | (simp only [cRun, go_sem, simprocAttr]; done) | (simp only [cRun, go_sem, simprocAttr]; rfl)), -1, by simp, by simp, by simp, by simp, by simp⟩ ?_)
  rintro n f H ⟨k, rfl, hk, ⟨h1, h3⟩, last, hl0, hl1, hl2, hl3, hr⟩
  by_cases hlt : k < r.cpls.length
  ·obtain ⟨x, hx⟩ : ∃ x, r.cpls[k]? = some x := ⟨_, List.getElem?_eq_getElem hlt⟩
   rw [drop_cons hx] at hr
   simp only [cplsFrom] at hr
   refine AW_keep [] ?_
   have bad : cplOK last x = false → false = runOK r := fun h => by rw [hR, hr, h]; simp
   have good : cplOK last x = true → ∃ m, m < r.cpls.length - k ∧ ∃ k', m = r.cpls.length - k' ∧ k' ≤ r.cpls.length ∧ Val.int .i64 ((k + 1 : Nat) : Int) = .int .i64 (k' : Int) ∧ ∃ last, (k' = 0 → last = -1) ∧ (∀ j, k' = j + 1 → ∃ a, r.cpls[j]? = some a ∧ a.id = last) ∧ -1 ≤ last ∧ last ≤ 9999 ∧ cplsFrom (-1) r.cpls = cplsFrom last (r.cpls.drop k') := fun h => by
    refine ⟨r.cpls.length - (k + 1), by omega, k + 1, rfl, by omega, rfl, x.id, by omega, (fun j hj => ⟨x, (by rw [show j = k by omega]; exact hx), rfl⟩), ?_⟩
    have h' := h
    simp only [cplOK, decide_eq_true_eq] at h
    refine ⟨by omega, by omega, ?_⟩
    rw [hr, h']; simp
   simp only [cplOK, decide_eq_false_iff_not, decide_eq_true_eq] at bad good
   rcases k with _ | j
   ·obtain rfl := hl0 rfl
    repeat' (first | with_reducible (first | (refine sk ?_; intro K hK) | refine bk ?_ | intro (ep : Nat → Nat) | apply_assumption -exfalso -symm only [*]) | ((first | (with_reducible first | refine rg (h := ?_) | refine nx ?_) | refine pK (rwithin_ok _ _ _) ?_ | refine pK (rspanned_ok x.err _ _) ?_ | refine pK (rspanned_ok x.lag _ _) ?_); try simp (disch := omega) only [h1, h3, hx, cRun, cCpl,go_sem, simprocAttr]) | ((with_reducible refine' cE ?hv ?_ ?_); (case hv => rfl); all_goals (intro hc; (try simp only [go_sem, simprocAttr] at hc); try (exfalso; omega))) | ((with_reducible refine grdS_split ?_ ?_) <;> intro hg <;> (try simp (disch := omega) only [hg, h1, h3, hx, cRun, cCpl,go_sem, simprocAttr]) <;> (try simp only [go_sem, simprocAttr] at hg) <;> (try (exfalso; omega))) | ((with_reducible refine fe ?_); refine ⟨_, (by simp only [Tryz.f92, h1, h3, hx, cRun, cCpl,go_sem, simprocAttr]; rfl), ?_⟩; (try simp only [h1, h3, hx, cRun, cCpl,go_sem, simprocAttr, seval])) | fail)
    all_goals omega
   ·obtain ⟨a, haj, hal⟩ := hl1 j rfl
    repeat' (first | with_reducible (first | (refine sk ?_; intro K hK) | refine bk ?_ | intro (ep : Nat → Nat) | apply_assumption -exfalso -symm only [*]) | ((first | (with_reducible first | refine rg (h := ?_) | refine nx ?_) | refine pK (rwithin_ok _ _ _) ?_ | refine pK (rspanned_ok x.err _ _) ?_ | refine pK (rspanned_ok x.lag _ _) ?_); try simp (disch := omega) only [h1, h3, hx, haj, cRun, cCpl,go_sem, simprocAttr]) | ((with_reducible refine' cE ?hv ?_ ?_); (case hv => rfl); all_goals (intro hc; (try simp only [go_sem, simprocAttr] at hc); try (exfalso; omega))) | ((with_reducible refine grdS_split ?_ ?_) <;> intro hg <;> (try simp (disch := omega) only [hg, h1, h3, hx, haj, cRun, cCpl,go_sem, simprocAttr]) <;> (try simp only [go_sem, simprocAttr] at hg) <;> (try (exfalso; omega))) | ((with_reducible refine fe ?_); refine ⟨_, (by simp only [Tryz.f92, h1, h3, hx, haj, cRun, cCpl,go_sem, simprocAttr]; rfl), ?_⟩; (try simp only [h1, h3, hx, haj, cRun, cCpl,go_sem, simprocAttr, seval])) | fail)
    all_goals omega
  ·have hcp : cplsFrom (-1) r.cpls = true := by rw [hr, drop_none (by omega)]; rfl
   simp only [hcp, Bool.true_and] at hR
   repeat' (first | with_reducible (first | (refine sk ?_; intro K hK) | apply_assumption -exfalso -symm only [*]) | ((with_reducible first | refine rg (h := ?_) | refine nx ?_); try simp (disch := omega) only [h1, h3, cRun,go_sem, simprocAttr]) | ((with_reducible refine' cE ?hv ?_ ?_); (case hv => rfl); all_goals (intro hc; (try simp only [go_sem, simprocAttr] at hc); try (exfalso; omega))) | fail)
   refine AW_block (AW_loop (fun n f H => ∃ k : Nat, n = r.rows.length - k ∧ k ≤ r.rows.length ∧ (f 1 = .pim (cRun r) ∧ f 5 = .int .i64 k) ∧ r.rows.all (rowOK r.cpls.length) = (r.rows.drop k).all (rowOK r.cpls.length)) r.rows.length
    ⟨0, by simp, Nat.zero_le _, by (and_intros <;> first | rfl | (simp only [cRun, h1, go_sem, simprocAttr]; done) | (simp only [cRun, h1, go_sem, simprocAttr]; rfl)), by simp⟩ ?_)
   rintro n f H ⟨k, rfl, hk, ⟨h1, h5⟩, hr⟩
   by_cases hlt : k < r.rows.length
   ·obtain ⟨x, hx⟩ : ∃ x, r.rows[k]? = some x := ⟨_, List.getElem?_eq_getElem hlt⟩
    rw [drop_cons hx] at hr
    simp only [List.all_cons] at hr
    have hxd := hb.degs x (List.mem_of_getElem? hx)
    repeat' (first | with_reducible (first | (refine sk ?_; intro K hK) | refine bk ?_ | apply_assumption -exfalso -symm only [*]) | ((first | (with_reducible first | refine rg (h := ?_) | refine nx ?_) | refine pK (rwithin_ok _ _ _) ?_); try simp (disch := omega) only [h1, h5, hx, cRun, cRow,go_sem, simprocAttr]) | ((with_reducible refine' cE ?hv ?_ ?_); (case hv => rfl); all_goals (intro hc; (try simp only [go_sem, simprocAttr] at hc); try (exfalso; omega))) | ((with_reducible refine grdS_split ?_ ?_) <;> intro hg <;> (try simp (disch := omega) only [hg, h1, h5, hx, cRun, cRow,go_sem, simprocAttr]) <;> (try simp only [go_sem, simprocAttr] at hg) <;> (try (exfalso; omega))) | ((with_reducible refine fe ?_); refine ⟨_, (by simp only [Tryz.f92, h1, h5, hx, cRun, cRow,go_sem, simprocAttr]; rfl), ?_⟩; (try simp only [h1, h5, hx, cRun, cRow,go_sem, simprocAttr, seval])) | fail)
    ·have : rowOK r.cpls.length x = false := by simp [rowOK]; intro h; omega
     rw [hR, hr, this]; simp
    ·have : rowOK r.cpls.length x = false := by simp [rowOK]; intro h; omega
     rw [hR, hr, this]; simp
    have hdl : x.deg.length = r.cpls.length := by omega
    refine AW_block (AW_loop (fun n f H => ∃ i : Nat, n = x.deg.length - i ∧ i ≤ x.deg.length ∧ (f 1 = .pim (cRun r) ∧ f 5 = .int .i64 k ∧ f 6 = .int .i64 i) ∧ degsOK x.deg = degsOK (x.deg.drop i)) x.deg.length
     ⟨0, by simp, Nat.zero_le _, by (and_intros <;> first | rfl | (simp only [cRun, h1, h5, go_sem, simprocAttr]; done) | (simp only [cRun, h1, h5, go_sem, simprocAttr]; rfl)), by simp⟩ ?_)
    rintro n f H ⟨i, rfl, hi, ⟨h1, h5, h6⟩, hd⟩
    by_cases hlt2 : i < x.deg.length
    ·obtain ⟨y, hy⟩ : ∃ y, x.deg[i]? = some y := ⟨_, List.getElem?_eq_getElem hlt2⟩
     rw [drop_cons hy] at hd
     have hd' : degsOK x.deg = (decide (0 ≤ y ∧ y ≤ 2000) && degsOK (x.deg.drop (i + 1))) := hd
     repeat' (first | with_reducible (first | (refine sk ?_; intro K hK) | refine bk ?_ | apply_assumption -exfalso -symm only [*]) | ((first | (with_reducible first | refine rg (h := ?_) | refine nx ?_) | refine pK (rwithin_ok _ _ _) ?_); try simp (disch := omega) only [h1, h5, h6, hx, hy, cRun, cRow,go_sem, simprocAttr]) | ((with_reducible refine' cE ?hv ?_ ?_); (case hv => rfl); all_goals (intro hc; (try simp only [go_sem, simprocAttr] at hc); try (exfalso; omega))) | ((with_reducible refine fe ?_); refine ⟨_, (by simp only [Tryz.f92, h1, h5, h6, hx, hy, cRun, cRow,go_sem, simprocAttr]; rfl), ?_⟩; (try simp only [h1, h5, h6, hx, hy, cRun, cRow,go_sem, simprocAttr, seval])) | fail)
     ·have : rowOK r.cpls.length x = false := by rw [rowOK, hd', show decide (0 ≤ y ∧ y ≤ 2000) = false from decide_eq_false (by omega)]; simp
      rw [hR, hr, this]; simp
     ·refine ⟨x.deg.length - (i + 1), by omega, i + 1, rfl, by omega, rfl, ?_⟩
      rw [hd', show decide (0 ≤ y ∧ y ≤ 2000) = true from decide_eq_true (by omega)]; simp
    ·have hdo : degsOK x.deg = true := by rw [hd, drop_none (by omega)]; rfl
     have hro : rowOK r.cpls.length x = true := by rw [rowOK, hdo, decide_eq_true (by omega)]; rfl
     repeat' (first | with_reducible (first | (refine sk ?_; intro K hK) | apply_assumption -exfalso -symm only [*]) | ((with_reducible first | refine rg (h := ?_) | refine nx ?_); try simp (disch := omega) only [h1, h5, h6, hx, cRun, cRow,go_sem, simprocAttr]) | ((with_reducible refine' cE ?hv ?_ ?_); (case hv => rfl); all_goals (intro hc; (try simp only [go_sem, simprocAttr] at hc); try (exfalso; omega))) | fail)
     refine ⟨r.rows.length - (k + 1), by omega, k + 1, rfl, by omega, rfl, ?_⟩
     rw [hr, hro]; simp
   ·repeat' (first | with_reducible (first | (refine sk ?_; intro K hK) | apply_assumption -exfalso -symm only [*]) | ((with_reducible first | refine rg (h := ?_) | refine nx ?_); try simp (disch := omega) only [h1, h5, cRun,go_sem, simprocAttr]) | ((with_reducible refine' cE ?hv ?_ ?_); (case hv => rfl); all_goals (intro hc; (try simp only [go_sem, simprocAttr] at hc); try (exfalso; omega))) | ((with_reducible refine fe ?_); refine ⟨_, (by simp only [Tryz.f92, h1, h5, cRun,go_sem, simprocAttr]; rfl), ?_⟩; (try simp only [h1, h5, cRun,go_sem, simprocAttr, seval])) | fail)
    rw [hR, hr, drop_none (by omega)]; rfl
 ·simp only [Bool.not_eq_true] at hcv
  repeat' (first | with_reducible (first | (refine sk ?_; intro K hK) | apply_assumption -exfalso -symm only [*]) | ((first | (with_reducible first | refine rg (h := ?_) | refine nx ?_) | refine pK (rwithin_ok _ _ _) ?_ | refine pK (rcurve_ok r.curve hb.curve) ?_); try simp (disch := omega) only [hcv, encRun, cRun,go_sem, simprocAttr]) | ((with_reducible refine' cE ?hv ?_ ?_); (case hv => rfl); all_goals (intro hc; (try simp only [go_sem, simprocAttr] at hc))) | ((with_reducible refine grdS_split ?_ ?_) <;> intro hg <;> (try simp (disch := omega) only [hg, hcv, encRun, cRun,go_sem, simprocAttr]) <;> (try simp only [go_sem, simprocAttr] at hg) <;> (try (exfalso; omega))) | ((with_reducible refine fe ?_); refine ⟨_, (by simp only [Tryz.f92, hcv, encRun, cRun,go_sem, simprocAttr]; rfl), ?_⟩; (try simp only [hcv, encRun, cRun,go_sem, simprocAttr, seval])) | fail)
  all_goals rw [runOK_curve hcv]
end Cp
