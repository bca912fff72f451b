/- The value engine: the tables of this seat: types, and of each function what its regions and its calls leave. Printed by a program of this session. No conditions. -/
import Derived.Test.YtkfeofjgdijbeaaProg
import Derived.Test.YtkfeofjgdijbeaaVb
import Derived.KernelRfl
set_option linter.unusedVariables false
set_option linter.unusedSimpArgs false
namespace Go.Eng
open Go.Proofs
set_option maxRecDepth 100000
@[simp] theorem ty_u_3 : Try.prog.underlying 3 = some (.int .i64) := by kernel_rfl
@[simp] theorem ty_k_3 : kindOf Try.prog 3 = some .i64 := by kernel_rfl
@[simp] theorem ty_a_3 : aggT Try.prog 3 = some false := by kernel_rfl
@[simp] theorem ty_s_3 : sizeT Try.prog 3 = some 1 := by kernel_rfl
@[simp] theorem ty_b_3 : bytesT Try.prog 3 = some 8 := by kernel_rfl
@[simp] theorem ty_z_3 : zeroT Try.prog 3 = some (.c (.int .i64 0)) := by kernel_rfl
@[simp] theorem ty_u_4 : Try.prog.underlying 4 = some (.bool) := by kernel_rfl
@[simp] theorem ty_k_4 : kindOf Try.prog 4 = none := by kernel_rfl
@[simp] theorem ty_a_4 : aggT Try.prog 4 = some false := by kernel_rfl
@[simp] theorem ty_s_4 : sizeT Try.prog 4 = some 1 := by kernel_rfl
@[simp] theorem ty_b_4 : bytesT Try.prog 4 = some 1 := by kernel_rfl
@[simp] theorem ty_z_4 : zeroT Try.prog 4 = some (.c (.bool false)) := by kernel_rfl
@[simp] theorem ty_u_5 : Try.prog.underlying 5 = some (.int .u8) := by kernel_rfl
@[simp] theorem ty_k_5 : kindOf Try.prog 5 = some .u8 := by kernel_rfl
@[simp] theorem ty_a_5 : aggT Try.prog 5 = some false := by kernel_rfl
@[simp] theorem ty_s_5 : sizeT Try.prog 5 = some 1 := by kernel_rfl
@[simp] theorem ty_b_5 : bytesT Try.prog 5 = some 1 := by kernel_rfl
@[simp] theorem ty_z_5 : zeroT Try.prog 5 = some (.c (.int .u8 0)) := by kernel_rfl
@[simp] theorem ty_u_22 : Try.prog.underlying 22 = some (.slice 5) := by kernel_rfl
@[simp] theorem ty_k_22 : kindOf Try.prog 22 = none := by kernel_rfl
@[simp] theorem ty_a_22 : aggT Try.prog 22 = some false := by kernel_rfl
@[simp] theorem ty_s_22 : sizeT Try.prog 22 = some 1 := by kernel_rfl
@[simp] theorem ty_b_22 : bytesT Try.prog 22 = some 24 := by kernel_rfl
@[simp] theorem ty_e_22 : elemS Try.prog 22 = some 5 := by kernel_rfl
@[simp] theorem ty_z_22 : zeroT Try.prog 22 = some (.c (.nil)) := by kernel_rfl
@[simp] theorem ty_u_24 : Try.prog.underlying 24 = some (.slice 3) := by kernel_rfl
@[simp] theorem ty_k_24 : kindOf Try.prog 24 = none := by kernel_rfl
@[simp] theorem ty_a_24 : aggT Try.prog 24 = some false := by kernel_rfl
@[simp] theorem ty_s_24 : sizeT Try.prog 24 = some 1 := by kernel_rfl
@[simp] theorem ty_b_24 : bytesT Try.prog 24 = some 24 := by kernel_rfl
@[simp] theorem ty_e_24 : elemS Try.prog 24 = some 3 := by kernel_rfl
@[simp] theorem ty_z_24 : zeroT Try.prog 24 = some (.c (.nil)) := by kernel_rfl
@[simp] theorem ty_k_26 : kindOf Try.prog 26 = none := by kernel_rfl
@[simp] theorem ty_a_26 : aggT Try.prog 26 = some true := by kernel_rfl
@[simp] theorem ty_s_26 : sizeT Try.prog 26 = some 1 := by kernel_rfl
@[simp] theorem ty_b_26 : bytesT Try.prog 26 = some 24 := by kernel_rfl
@[simp] theorem ty_z_26 : zeroT Try.prog 26 = some (.agg [.nil]) := by kernel_rfl
@[simp] theorem ty_f_26_0 : fieldOf Try.prog 26 0 = some (0, 1, false) := by kernel_rfl
@[simp] theorem ty_p_26 : placesB Try.prog 26 = some [(0, 1)] := by kernel_rfl
@[simp] theorem ty_k_28 : kindOf Try.prog 28 = none := by kernel_rfl
@[simp] theorem ty_a_28 : aggT Try.prog 28 = some true := by kernel_rfl
@[simp] theorem ty_s_28 : sizeT Try.prog 28 = some 2 := by kernel_rfl
@[simp] theorem ty_b_28 : bytesT Try.prog 28 = some 32 := by kernel_rfl
@[simp] theorem ty_z_28 : zeroT Try.prog 28 = some (.agg [.bool false, .nil]) := by kernel_rfl
@[simp] theorem ty_f_28_0 : fieldOf Try.prog 28 0 = some (0, 1, false) := by kernel_rfl
@[simp] theorem ty_f_28_1 : fieldOf Try.prog 28 1 = some (1, 1, true) := by kernel_rfl
@[simp] theorem ty_p_28 : placesB Try.prog 28 = some [(0, 1), (1, 1)] := by kernel_rfl
@[simp] theorem ty_k_33 : kindOf Try.prog 33 = none := by kernel_rfl
@[simp] theorem ty_a_33 : aggT Try.prog 33 = some false := by kernel_rfl
@[simp] theorem ty_s_33 : sizeT Try.prog 33 = some 1 := by kernel_rfl
@[simp] theorem ty_b_33 : bytesT Try.prog 33 = some 8 := by kernel_rfl
@[simp] theorem ty_k_37 : kindOf Try.prog 37 = none := by kernel_rfl
@[simp] theorem ty_a_37 : aggT Try.prog 37 = some true := by kernel_rfl
@[simp] theorem ty_s_37 : sizeT Try.prog 37 = some 1 := by kernel_rfl
@[simp] theorem ty_b_37 : bytesT Try.prog 37 = some 24 := by kernel_rfl
@[simp] theorem ty_z_37 : zeroT Try.prog 37 = some (.agg [.nil]) := by kernel_rfl
@[simp] theorem ty_f_37_0 : fieldOf Try.prog 37 0 = some (0, 1, false) := by kernel_rfl
@[simp] theorem ty_p_37 : placesB Try.prog 37 = some [(0, 1)] := by kernel_rfl
@[simp] theorem ty_k_39 : kindOf Try.prog 39 = none := by kernel_rfl
@[simp] theorem ty_a_39 : aggT Try.prog 39 = some true := by kernel_rfl
@[simp] theorem ty_s_39 : sizeT Try.prog 39 = some 2 := by kernel_rfl
@[simp] theorem ty_b_39 : bytesT Try.prog 39 = some 32 := by kernel_rfl
@[simp] theorem ty_z_39 : zeroT Try.prog 39 = some (.agg [.bool false, .nil]) := by kernel_rfl
@[simp] theorem ty_f_39_0 : fieldOf Try.prog 39 0 = some (0, 1, false) := by kernel_rfl
@[simp] theorem ty_f_39_1 : fieldOf Try.prog 39 1 = some (1, 1, true) := by kernel_rfl
@[simp] theorem ty_p_39 : placesB Try.prog 39 = some [(0, 1), (1, 1)] := by kernel_rfl
@[simp] theorem ty_k_41 : kindOf Try.prog 41 = none := by kernel_rfl
@[simp] theorem ty_a_41 : aggT Try.prog 41 = some true := by kernel_rfl
@[simp] theorem ty_s_41 : sizeT Try.prog 41 = some 3 := by kernel_rfl
@[simp] theorem ty_b_41 : bytesT Try.prog 41 = some 40 := by kernel_rfl
@[simp] theorem ty_z_41 : zeroT Try.prog 41 = some (.agg [.bool false, .nil, .int .i64 0]) := by kernel_rfl
@[simp] theorem ty_f_41_0 : fieldOf Try.prog 41 0 = some (0, 2, true) := by kernel_rfl
@[simp] theorem ty_f_41_1 : fieldOf Try.prog 41 1 = some (2, 1, false) := by kernel_rfl
@[simp] theorem ty_p_41 : placesB Try.prog 41 = some [(0, 2), (2, 1)] := by kernel_rfl
@[simp] theorem ty_k_46 : kindOf Try.prog 46 = none := by kernel_rfl
@[simp] theorem ty_a_46 : aggT Try.prog 46 = some true := by kernel_rfl
@[simp] theorem ty_s_46 : sizeT Try.prog 46 = some 3 := by kernel_rfl
@[simp] theorem ty_b_46 : bytesT Try.prog 46 = some 40 := by kernel_rfl
@[simp] theorem ty_z_46 : zeroT Try.prog 46 = some (.agg [.bool false, .nil, .int .i64 0]) := by kernel_rfl
@[simp] theorem ty_f_46_0 : fieldOf Try.prog 46 0 = some (0, 2, true) := by kernel_rfl
@[simp] theorem ty_f_46_1 : fieldOf Try.prog 46 1 = some (2, 1, false) := by kernel_rfl
@[simp] theorem ty_p_46 : placesB Try.prog 46 = some [(0, 2), (2, 1)] := by kernel_rfl
@[simp] theorem ty_u_132 : Try.prog.underlying 132 = some (.int .u64) := by kernel_rfl
@[simp] theorem ty_k_132 : kindOf Try.prog 132 = some .u64 := by kernel_rfl
@[simp] theorem ty_a_132 : aggT Try.prog 132 = some false := by kernel_rfl
@[simp] theorem ty_s_132 : sizeT Try.prog 132 = some 1 := by kernel_rfl
@[simp] theorem ty_b_132 : bytesT Try.prog 132 = some 8 := by kernel_rfl
@[simp] theorem ty_z_132 : zeroT Try.prog 132 = some (.c (.int .u64 0)) := by kernel_rfl
@[simp] theorem ty_u_151 : Try.prog.underlying 151 = some (.int .u32) := by kernel_rfl
@[simp] theorem ty_k_151 : kindOf Try.prog 151 = some .u32 := by kernel_rfl
@[simp] theorem ty_a_151 : aggT Try.prog 151 = some false := by kernel_rfl
@[simp] theorem ty_s_151 : sizeT Try.prog 151 = some 1 := by kernel_rfl
@[simp] theorem ty_b_151 : bytesT Try.prog 151 = some 4 := by kernel_rfl
@[simp] theorem ty_z_151 : zeroT Try.prog 151 = some (.c (.int .u32 0)) := by kernel_rfl
@[simp] theorem ty_u_154 : Try.prog.underlying 154 = some (.int .u64) := by kernel_rfl
@[simp] theorem ty_k_154 : kindOf Try.prog 154 = some .u64 := by kernel_rfl
@[simp] theorem ty_a_154 : aggT Try.prog 154 = some false := by kernel_rfl
@[simp] theorem ty_s_154 : sizeT Try.prog 154 = some 1 := by kernel_rfl
@[simp] theorem ty_b_154 : bytesT Try.prog 154 = some 8 := by kernel_rfl
@[simp] theorem ty_z_154 : zeroT Try.prog 154 = some (.c (.int .u64 0)) := by kernel_rfl
def tab4 : List (List Nat) := [[1], [1, 3], [1, 3], [1, 18], [2], [1, 4, 5], [1, 4, 5, 6], [1, 4, 5, 6, 7, 8], [1, 4, 5, 6, 7, 8, 40], [2], [1, 4, 5, 6, 7, 8, 45], [2], [1, 4, 5, 6, 7, 8, 9], [1, 4, 5, 7, 8, 9], [1, 4, 5, 7, 61], [2], [1, 4, 5, 7, 10], [1, 4, 5, 7, 10], [1, 4, 5, 7, 10, 11], [1, 4, 5, 7, 10, 11], [1, 4, 5, 7, 10, 11, 69], [2], [1, 4, 5, 7, 10, 72], [2], [4, 5, 7, 10, 12, 13], [7, 10, 87], [2], [7, 10, 11], [10, 11], [10, 11, 92], [2], [95], [2], [2]]
def tab16 : List (List Nat) := [[1, 2], [1], [1, 10], [4], [4]]
def tab17 : List (List Nat) := [[1], [1, 16], [2, 3], [2, 3]]
def tab18 : List (List Nat) := [[1, 2], [1, 2, 3], [1, 2, 3], [2, 3], [2]]
def tab19 : List (List Nat) := [[1], [1, 12], [2, 3], [2, 3]]
def tab20 : List (List Nat) := [[0, 1], [0, 1, 10], [4], [0, 1, 5], [0, 1, 5, 14], [0, 1, 5], [0, 1, 5, 25], [4], [4]]
def tab21 : List (List Nat) := [[2, 3], [2, 3, 10], [4], [15], [4], [4]]
def tab22 : List (List Nat) := [[1, 2], [1], [4]]
def tab23 : List (List Nat) := [[0, 1], [0, 1, 5], [0, 1, 5, 9], [0, 1, 5], [0, 1, 5], [0, 1, 5], [4]]
def tab24 : List (List Nat) := [[0, 1], [0, 1, 5], [0, 1, 5, 9], [0, 1, 5], [0, 1, 5, 18], [4], [0, 1, 5], [4]]
def tab43 : List (List Nat) := [[0, 1, 2], [6]]
def tab46 : List (List Nat) := [[1, 2], [1], [1, 10], [4], [4]]
def tab47 : List (List Nat) := [[1], [1, 16], [2], [1, 22], [2], [2]]
def tab48 : List (List Nat) := [[1], [1, 3], [1, 3, 10], [1, 3], [1, 3, 16], [2], [1, 3, 4], [3, 4, 5], [3, 4, 5, 6], [3, 4, 5, 6, 34], [3, 4, 5, 6], [3, 4, 5, 6], [3, 4, 7], [3, 4, 7, 45], [3, 4, 7], [2]]
def tab49 : List (List Nat) := [[1, 2], [1, 2, 3], [1, 2, 3], [2, 3], [2]]
def tab50 : List (List Nat) := [[1], [1, 12], [2], [2]]
def tab51 : List (List Nat) := [[1], [1, 3, 4], [3, 4, 5], [3, 4, 5, 29], [2], [4, 5, 6], [4, 5, 7], [4, 5, 7], [5, 7], [2]]
def tab52 : List (List Nat) := [[2, 3], [2, 3, 9], [4], [15], [4], [4]]
def tab53 : List (List Nat) := [[1, 2], [1], [4]]
def tab66 : List (List Nat) := [[1], [1, 11], [2], [1, 3], [1, 3, 17], [1, 3, 4, 5], [1, 3, 4], [1, 3], [3, 6], [3, 6, 7], [3, 6, 7, 34], [3, 6, 7], [3, 6, 7], [2]]
def tab74 : List (List Nat) := [[0, 1], [0, 1, 5], [1, 5, 17, 18, 19], [1, 5, 17, 18, 19, 20], [1, 5, 6, 7, 17, 18, 19], [1, 5, 6, 7, 8, 17, 18, 19], [1, 5, 6, 7, 8, 17, 18, 19, 24, 25, 26], [1, 5, 6, 7, 8, 17, 18, 19, 24, 25, 26, 27], [1, 5, 6, 7, 8, 9, 10, 17, 18, 19, 24, 25, 26], [1, 5, 6, 7, 8, 9, 17, 18, 19, 24, 25, 26], [1, 5, 6, 7, 8, 17, 18, 19, 24, 25, 26], [1, 5, 6, 7, 8, 17, 18, 19, 24, 25, 26], [1, 5, 6, 7, 8, 17, 18, 19, 24, 25, 26], [1, 5, 17, 18, 19], [1, 5, 17, 18, 19], [4]]
def tab75 : List (List Nat) := [[0], [0, 3], [0, 3, 5], [0, 3], [0, 3], [2]]
def tab78 : List (List Nat) := [[1, 2], [1], [1, 10], [4], [4]]
def tab79 : List (List Nat) := [[1], [2]]
def tab80 : List (List Nat) := [[1, 2], [1, 2, 14], [4], [4]]
def tab81 : List (List Nat) := [[1, 2, 4], [1, 2, 4, 8], [4], [4]]
def tab82 : List (List Nat) := [[2, 3, 4], [2, 3, 4, 5], [2, 3, 4, 5, 6], [2, 3, 4, 5, 6, 22], [2, 3, 4, 5, 6], [2, 3, 4, 5, 6, 7], [2, 3, 4, 5, 6, 7, 8], [2, 3, 4, 5, 6, 7, 8, 29], [2, 3, 4, 5, 6, 7, 8], [2, 3, 4, 5, 6, 8, 9], [2, 3, 4, 5, 6, 8, 9], [2, 3, 4, 5, 6, 7, 8], [2, 3, 4, 5, 6], [4]]
def tab83 : List (List Nat) := [[0, 2], [0, 2, 3], [0, 2, 3, 5], [0, 2, 3], [0, 2, 3], [2]]
def tab84 : List (List Nat) := [[1, 2], [1, 2, 3], [2, 3], [2]]
def tab85 : List (List Nat) := [[1], [2]]
def tab86 : List (List Nat) := [[0, 1], [0, 1, 13], [4], [4]]
def tab87 : List (List Nat) := [[0, 1], [1, 5], [4], [4]]
def tab88 : List (List Nat) := [[0], [0, 8], [2], [0, 3], [0, 3, 13], [3, 4, 5], [3, 4, 5, 19], [3, 4, 5, 19, 20], [3, 4, 5, 19], [3, 4, 5, 19], [3, 4, 5, 19], [0, 3], [3, 38], [3], [3], [2]]
def tab89 : List (List Nat) := [[0, 1], [0, 1, 13], [4], [1, 5], [1, 5, 6], [1, 5, 6, 21, 22, 23], [1, 5, 6, 21, 22, 23, 24], [1, 5, 6, 7, 8, 21, 22, 23], [1, 5, 6, 7, 8, 21, 22, 23, 32], [1, 5, 6, 8, 21, 22, 23], [1, 5, 6, 21, 22, 23], [1, 5, 6, 21, 22, 23], [4]]
def tab90 : List (List Nat) := [[0, 1], [0, 1, 11], [4], [0, 1, 5], [0, 1, 5, 6], [1, 5, 6, 21, 22, 23], [1, 5, 6, 21, 22, 23, 24], [1, 5, 6, 8, 21, 22, 23], [1, 5, 6, 21, 22, 23], [1, 5, 6, 21, 22, 23], [1, 5, 6, 21, 22, 23], [1, 5, 6, 21, 22, 23], [4]]
def tab91 : List (List Nat) := [[0, 1], [0, 1, 5], [0, 1, 5, 6], [1, 5, 6, 12, 13, 14], [1, 5, 6, 12, 13, 14, 15], [1, 5, 6, 7, 8, 12, 13, 14], [1, 5, 7, 8, 12, 13, 14], [1, 5, 7, 8, 12, 13, 14, 25], [1, 5, 8, 12, 13, 14], [1, 5, 6, 8, 12, 13, 14], [1, 5, 6, 8, 12, 13, 14, 33], [1, 5, 8, 12, 13, 14], [1, 5, 6, 8, 12, 13, 14], [1, 5, 6, 12, 13, 14], [1, 5, 6, 12, 13, 14], [4]]
def tab92 : List (List Nat) := [[0, 1], [0, 1, 5], [0, 5, 7, 8], [0, 5, 7, 8, 9], [0, 5, 7, 8], [0, 5, 7, 8], [4]]
def tab93 : List (List Nat) := [[0, 1], [0, 1, 10], [0, 1], [0, 5, 6], [0, 6, 26], [0, 6], [0, 7], [7, 8], [7, 8, 37], [7, 8], [4]]
def tab94 : List (List Nat) := [[2, 3], [10], [4], [4]]
def tab95 : List (List Nat) := [[1, 2], [1], [4]]
def tab108 : List (List Nat) := [[1, 2, 4], [1, 2, 4, 6], [1, 2, 4, 6, 7], [1, 2, 4, 6, 7, 8], [1, 2, 4, 6, 7, 8, 19], [1, 2, 4, 6, 7, 8], [1, 2, 4, 6, 8, 9], [1, 2, 4, 6, 8, 9], [1, 2, 4, 6, 7, 8], [4, 5]]
def tab109 : List (List Nat) := [[0, 2], [0, 2, 3], [0, 2, 3, 15], [0, 2, 3], [2]]
def tab114 : List (List Nat) := [[0], [0, 14], [0], [2]]
def tab116 : List (List Nat) := [[0, 1], [1], [1, 10], [4], [4]]
def tab117 : List (List Nat) := [[1], [1, 7], [2], [1, 3], [1, 3, 12], [1, 3], [1, 3, 28], [2], [2]]
def tab118 : List (List Nat) := [[0], [0, 3], [0, 3, 4], [0, 3, 4, 11], [0, 3, 4], [0, 3, 4], [2]]
def tab119 : List (List Nat) := [[1], [2]]
def tab120 : List (List Nat) := [[0, 1], [0, 1, 6], [0, 1, 6, 7], [0, 1, 6, 7, 8], [0, 1, 6, 7, 8, 16], [0, 1, 6, 7, 8], [0, 1, 6, 7, 8], [0, 1, 6, 7, 8], [0, 1, 6, 7, 8], [4, 5]]
def tab121 : List (List Nat) := [[0, 2, 3], [0, 2, 3, 9], [0, 2, 3], [0, 2, 3]]
def tab122 : List (List Nat) := [[0, 1], [6, 7], [4, 5], [8, 9], [4, 5]]
def tab123 : List (List Nat) := [[0, 1], [0, 1, 10], [4], [0, 1, 5], [0, 1, 5, 14], [0, 1, 5], [0, 1, 5, 25], [4], [4]]
def tab124 : List (List Nat) := [[0, 1], [0, 1, 5], [0, 1, 5, 9], [0, 1, 5], [0, 1, 5], [0, 1, 5], [4]]
def tab133 : List (List Nat) := [[0, 3], [4]]
def tab134 : List (List Nat) := [[0], [2]]
def tab135 : List (List Nat) := [[0, 1], [6], [4, 5]]
def tab136 : List (List Nat) := [[0, 1], [0, 1, 6], [0, 1, 6, 7], [0, 1, 6, 7, 8], [0, 1, 6, 7, 8, 9], [0, 1, 6, 7, 8, 9, 10], [0, 1, 6, 7, 9, 11], [0, 1, 6, 7, 9, 11, 12], [0, 1, 6, 7, 9, 12, 13], [0, 1, 7, 9, 12, 13], [0, 1, 4], [4, 5]]
def tab146 : List (List Nat) := [[0, 1], [4]]
def tab147 : List (List Nat) := [[0, 1], [3]]
def tab155 : List (List Nat) := [[0, 1], [0, 1, 7, 8], [0, 1, 7, 8, 9], [0, 1, 5, 7, 8], [0, 1, 5, 7, 8, 16], [4], [0, 1, 7, 8], [4]]
def tabs : Nat → List (List Nat)
  | 4 => tab4
  | 16 => tab16
  | 17 => tab17
  | 18 => tab18
  | 19 => tab19
  | 20 => tab20
  | 21 => tab21
  | 22 => tab22
  | 23 => tab23
  | 24 => tab24
  | 43 => tab43
  | 46 => tab46
  | 47 => tab47
  | 48 => tab48
  | 49 => tab49
  | 50 => tab50
  | 51 => tab51
  | 52 => tab52
  | 53 => tab53
  | 66 => tab66
  | 74 => tab74
  | 75 => tab75
  | 78 => tab78
  | 79 => tab79
  | 80 => tab80
  | 81 => tab81
  | 82 => tab82
  | 83 => tab83
  | 84 => tab84
  | 85 => tab85
  | 86 => tab86
  | 87 => tab87
  | 88 => tab88
  | 89 => tab89
  | 90 => tab90
  | 91 => tab91
  | 92 => tab92
  | 93 => tab93
  | 94 => tab94
  | 95 => tab95
  | 108 => tab108
  | 109 => tab109
  | 114 => tab114
  | 116 => tab116
  | 117 => tab117
  | 118 => tab118
  | 119 => tab119
  | 120 => tab120
  | 121 => tab121
  | 122 => tab122
  | 123 => tab123
  | 124 => tab124
  | 133 => tab133
  | 134 => tab134
  | 135 => tab135
  | 136 => tab136
  | 146 => tab146
  | 147 => tab147
  | 155 => tab155
  | _ => []
def impL : List Nat := [22, 23, 53, 95, 121, 124]
def aliL : List Nat := [87, 114]
def gcL : List Nat := [16, 17, 18, 19, 20, 21, 24, 43, 46, 47, 48, 49, 50, 51, 52, 66, 74, 75, 78, 79, 80, 81, 82, 83, 84, 85, 86, 88, 89, 90, 91, 92, 93, 94, 108, 109, 116, 117, 118, 119, 120, 122, 123, 133, 134, 135, 136, 146, 147, 155]
def ownL : List Nat := [4, 16, 17, 18, 19, 20, 21, 22, 23, 24, 43, 46, 47, 48, 49, 50, 51, 52, 53, 66, 74, 75, 78, 79, 80, 81, 82, 83, 84, 85, 86, 87, 88, 89, 90, 91, 92, 93, 94, 95, 108, 109, 114, 116, 117, 118, 119, 120, 121, 122, 123, 124, 133, 134, 135, 136, 146, 147, 155]
def cf : Cfg where
  pure := fun f => !impL.contains f
  keep := fun f r => (tabs f).getD r []
  pack := fun f => if ownL.contains f then .whole else .no
  clone := fun f => match f with
    | _ => none
  glob := fun _ => none
  rounds := 4294967296
  wary := fun f r => match f with
    | _ => false
  emt := fun _ => false
  papp := fun a => if isTT 49 55 a.toList = true then .late else (.no)
  ord := fun f r => match f with
    | 48 => if r = 15 then some [0, 1, 2, 3, 4, 5, 6, 8, 7, 9, 10, 11, 12, 13, 14, 15, 16, 17] else none
    | _ => none
def nil17 (t : Nat) : Option NK := if t = 2 then some (.i .u8) else none
def nil19 (t : Nat) : Option NK := if t = 2 then some (.i .u8) else none
def nil51 (t : Nat) : Option NK := if t = 2 then some (.i .u8) else none
def nil66 (t : Nat) : Option NK := if t = 2 then some (.i .u8) else if t = 3 then some (.i .u8) else if t = 6 then some (.i .u8) else none
def nil74 (t : Nat) : Option NK := if t = 4 then some (.i .i64) else none
def nil75 (t : Nat) : Option NK := if t = 2 then some (.i .i64) else if t = 3 then some (.i .i64) else none
def nil83 (t : Nat) : Option NK := if t = 3 then some (.i .i64) else none
def nil87 (t : Nat) : Option NK := if t = 4 then some (.i .u8) else none
def nil88 (t : Nat) : Option NK := if t = 2 then some (.i .u8) else if t = 3 then some (.i .u8) else none
def nil89 (t : Nat) : Option NK := if t = 4 then some (.i .i64) else none
def nil90 (t : Nat) : Option NK := if t = 4 then some (.i .i64) else none
def nil91 (t : Nat) : Option NK := if t = 4 then some (.i .i64) else none
def nil92 (t : Nat) : Option NK := if t = 4 then some (.i .i64) else none
def nil93 (t : Nat) : Option NK := if t = 4 then some (.i .u8) else none
def nil114 (t : Nat) : Option NK := if t = 2 then some (.i .i64) else none
def nil118 (t : Nat) : Option NK := if t = 2 then some (.i .i64) else none
def nil120 (t : Nat) : Option NK := if t = 4 then some (.i .i64) else none
def kn : Kn where
  cf := cf
  out := fun f => match f with
    | 4 => .frz []
    | 16 => .frz []
    | 17 => .frz [[some (.i .u8)]]
    | 18 => .own [[none, some (.i .i64)]]
    | 19 => .own [[some (.i .u8)]]
    | 20 => .frz []
    | 21 => .frz []
    | 22 => .inl
    | 23 => .inl
    | 24 => .frz []
    | 43 => .frz []
    | 46 => .frz []
    | 47 => .frz []
    | 48 => .frz [[some (.i .u8)]]
    | 49 => .own [[none, some (.i .i64)]]
    | 50 => .frz []
    | 51 => .own [[some (.i .u8)]]
    | 52 => .frz []
    | 53 => .inl
    | 66 => .own [[some (.i .u8)]]
    | 74 => .own [[some (.i .i64)]]
    | 75 => .own [[some (.i .i64)]]
    | 78 => .frz []
    | 79 => .frz []
    | 80 => .frz []
    | 81 => .frz [[some (.i .i64)]]
    | 82 => .frz [[some (.i .i64)]]
    | 83 => .own [[some (.i .i64)]]
    | 84 => .own [[some (.i .i64)]]
    | 85 => .frz []
    | 86 => .frz []
    | 87 => .inl
    | 88 => .own [[some (.i .u8)]]
    | 89 => .own [[some (.i .i64)]]
    | 90 => .own [[some (.i .i64)]]
    | 91 => .own [[some (.i .i64)]]
    | 92 => .own [[some (.i .i64)]]
    | 93 => .own [[some (.i .u8)]]
    | 94 => .frz []
    | 95 => .inl
    | 108 => .frz [[some (.i .i64)]]
    | 109 => .own [[some (.i .i64)]]
    | 114 => .inl
    | 116 => .frz []
    | 117 => .frz []
    | 118 => .own [[some (.i .i64)]]
    | 119 => .frz []
    | 120 => .own [[some (.i .i64)]]
    | 121 => .inl
    | 122 => .frz []
    | 123 => .frz []
    | 124 => .inl
    | 133 => .frz []
    | 134 => .frz []
    | 135 => .frz []
    | 136 => .frz []
    | 146 => .frz []
    | 147 => .frz []
    | 155 => .frz []
    | _ => .inl
  args := fun f => match f with
    | 4 => [[none, some (.i .i64)]]
    | 16 => [[none, some (.i .i64)]]
    | 17 => [[none, some (.i .i64)]]
    | 18 => [[none, some (.i .i64)]]
    | 19 => [[none, some (.i .i64)]]
    | 20 => [[some (.i .u8)], [some (.i .u8)]]
    | 21 => [[none, some (.i .i64)], [none, some (.i .i64)]]
    | 24 => [[some (.i .u8)]]
    | 46 => [[none, some (.i .i64)]]
    | 47 => [[none, some (.i .i64)]]
    | 48 => [[none, some (.i .i64)]]
    | 49 => [[none, some (.i .i64)]]
    | 50 => [[none, some (.i .i64)]]
    | 51 => [[none, some (.i .i64)]]
    | 52 => [[none, some (.i .i64)], [none, some (.i .i64)]]
    | 66 => [[some (.i .i64)]]
    | 74 => [[some (.i .i64)], [some (.i .i64)]]
    | 78 => [[some (.i .i64)]]
    | 79 => [[none, some (.i .i64)]]
    | 80 => [[some (.i .i64)]]
    | 81 => [[some (.i .i64)]]
    | 82 => [[some (.i .i64)], [some (.i .i64)]]
    | 84 => [[some (.i .i64)]]
    | 85 => [[none, some (.i .i64)]]
    | 86 => [[some (.i .i64)]]
    | 87 => [[], [some (.i .u8)]]
    | 88 => [[some (.i .i64)]]
    | 89 => [[some (.i .i64)]]
    | 90 => [[some (.i .i64)]]
    | 91 => [[some (.i .i64)], [some (.i .i64)]]
    | 92 => [[some (.i .i64)]]
    | 93 => [[some (.i .u8)]]
    | 94 => [[some (.i .i64)], [some (.i .i64)]]
    | 108 => [[some (.i .i64)]]
    | 109 => [[some (.i .i64)]]
    | 114 => [[some (.i .i64)]]
    | 116 => [[some (.i .i64)]]
    | 117 => [[some (.i .i64)]]
    | 118 => [[some (.i .i64)]]
    | 119 => [[some (.i .i64)]]
    | 120 => [[some (.i .i64)]]
    | 123 => [[some (.i .i64)], [some (.i .i64)]]
    | 133 => [[some (.i .i64)]]
    | 146 => [[some (.i .i64)]]
    | 155 => [[some (.i .i64)]]
    | _ => []
  nils := fun f => match f with
    | 17 => nil17
    | 19 => nil19
    | 51 => nil51
    | 66 => nil66
    | 74 => nil74
    | 75 => nil75
    | 83 => nil83
    | 87 => nil87
    | 88 => nil88
    | 89 => nil89
    | 90 => nil90
    | 91 => nil91
    | 92 => nil92
    | 93 => nil93
    | 114 => nil114
    | 118 => nil118
    | 120 => nil120
    | _ => fun _ => none
  gc := fun f => gcL.contains f
  ali := fun f => aliL.contains f
  glob := fun _ => none
@[simp] theorem k_cf : kn.cf = cf := rfl
@[simp] theorem c_emt (t : TypeId) : cf.emt t = (false) := rfl
@[simp] theorem c_papp (a : List Operand) : cf.papp a.toArray = (if isTT 49 55 a = true then .late else (.no)) := rfl
/-! 4: laws.FnExactDyText -/
@[simp] theorem c_keep4 (r : Nat) : cf.keep 4 r = tab4.getD r [] := rfl
@[simp] theorem c_pure4 : cf.pure 4 = true := rfl
@[simp] theorem c_pack4 : cf.pack 4 = .whole := rfl
@[simp] theorem c_wary4 (r : Nat) : cf.wary 4 r = false := rfl
@[simp] theorem c_clone4 : cf.clone 4 = none := rfl
@[simp] theorem c_ord4 (r : Nat) : cf.ord 4 r = (none) := rfl
@[simp] theorem k_out4 : kn.out 4 = .frz [] := rfl
@[simp] theorem k_args4 : kn.args 4 = [[none, some (.i .i64)]] := rfl
@[simp] theorem k_nils4 : kn.nils 4 = fun _ => none := rfl
@[simp] theorem k_gc4 : kn.gc 4 = false := rfl
@[simp] theorem k_ali4 : kn.ali 4 = false := rfl
/-! 16: laws.szDy -/
@[simp] theorem c_keep16 (r : Nat) : cf.keep 16 r = tab16.getD r [] := rfl
@[simp] theorem c_pure16 : cf.pure 16 = true := rfl
@[simp] theorem c_pack16 : cf.pack 16 = .whole := rfl
@[simp] theorem c_wary16 (r : Nat) : cf.wary 16 r = false := rfl
@[simp] theorem c_clone16 : cf.clone 16 = none := rfl
@[simp] theorem c_ord16 (r : Nat) : cf.ord 16 r = (none) := rfl
@[simp] theorem k_out16 : kn.out 16 = .frz [] := rfl
@[simp] theorem k_args16 : kn.args 16 = [[none, some (.i .i64)]] := rfl
@[simp] theorem k_nils16 : kn.nils 16 = fun _ => none := rfl
@[simp] theorem k_gc16 : kn.gc 16 = true := rfl
@[simp] theorem k_ali16 : kn.ali 16 = false := rfl
/-! 17: spec.DyText -/
@[simp] theorem c_keep17 (r : Nat) : cf.keep 17 r = tab17.getD r [] := rfl
@[simp] theorem c_pure17 : cf.pure 17 = true := rfl
@[simp] theorem c_pack17 : cf.pack 17 = .whole := rfl
@[simp] theorem c_wary17 (r : Nat) : cf.wary 17 r = false := rfl
@[simp] theorem c_clone17 : cf.clone 17 = none := rfl
@[simp] theorem c_ord17 (r : Nat) : cf.ord 17 r = (none) := rfl
@[simp] theorem k_out17 : kn.out 17 = .frz [[some (.i .u8)]] := rfl
@[simp] theorem k_args17 : kn.args 17 = [[none, some (.i .i64)]] := rfl
@[simp] theorem k_nils17 : kn.nils 17 = nil17 := rfl
@[simp] theorem k_gc17 : kn.gc 17 = true := rfl
@[simp] theorem k_ali17 : kn.ali 17 = false := rfl
/-! 18: laws.toDy -/
@[simp] theorem c_keep18 (r : Nat) : cf.keep 18 r = tab18.getD r [] := rfl
@[simp] theorem c_pure18 : cf.pure 18 = true := rfl
@[simp] theorem c_pack18 : cf.pack 18 = .whole := rfl
@[simp] theorem c_wary18 (r : Nat) : cf.wary 18 r = false := rfl
@[simp] theorem c_clone18 : cf.clone 18 = none := rfl
@[simp] theorem c_ord18 (r : Nat) : cf.ord 18 r = (none) := rfl
@[simp] theorem k_out18 : kn.out 18 = .own [[none, some (.i .i64)]] := rfl
@[simp] theorem k_args18 : kn.args 18 = [[none, some (.i .i64)]] := rfl
@[simp] theorem k_nils18 : kn.nils 18 = fun _ => none := rfl
@[simp] theorem k_gc18 : kn.gc 18 = true := rfl
@[simp] theorem k_ali18 : kn.ali 18 = false := rfl
/-! 19: impl.DyText -/
@[simp] theorem c_keep19 (r : Nat) : cf.keep 19 r = tab19.getD r [] := rfl
@[simp] theorem c_pure19 : cf.pure 19 = true := rfl
@[simp] theorem c_pack19 : cf.pack 19 = .whole := rfl
@[simp] theorem c_wary19 (r : Nat) : cf.wary 19 r = false := rfl
@[simp] theorem c_clone19 : cf.clone 19 = none := rfl
@[simp] theorem c_ord19 (r : Nat) : cf.ord 19 r = (none) := rfl
@[simp] theorem k_out19 : kn.out 19 = .own [[some (.i .u8)]] := rfl
@[simp] theorem k_args19 : kn.args 19 = [[none, some (.i .i64)]] := rfl
@[simp] theorem k_nils19 : kn.nils 19 = nil19 := rfl
@[simp] theorem k_gc19 : kn.gc 19 = true := rfl
@[simp] theorem k_ali19 : kn.ali 19 = false := rfl
/-! 20: laws.eqByteS -/
@[simp] theorem c_keep20 (r : Nat) : cf.keep 20 r = tab20.getD r [] := rfl
@[simp] theorem c_pure20 : cf.pure 20 = true := rfl
@[simp] theorem c_pack20 : cf.pack 20 = .whole := rfl
@[simp] theorem c_wary20 (r : Nat) : cf.wary 20 r = false := rfl
@[simp] theorem c_clone20 : cf.clone 20 = none := rfl
@[simp] theorem c_ord20 (r : Nat) : cf.ord 20 r = (none) := rfl
@[simp] theorem k_out20 : kn.out 20 = .frz [] := rfl
@[simp] theorem k_args20 : kn.args 20 = [[some (.i .u8)], [some (.i .u8)]] := rfl
@[simp] theorem k_nils20 : kn.nils 20 = fun _ => none := rfl
@[simp] theorem k_gc20 : kn.gc 20 = true := rfl
@[simp] theorem k_ali20 : kn.ali 20 = false := rfl
/-! 21: laws.eqDy -/
@[simp] theorem c_keep21 (r : Nat) : cf.keep 21 r = tab21.getD r [] := rfl
@[simp] theorem c_pure21 : cf.pure 21 = true := rfl
@[simp] theorem c_pack21 : cf.pack 21 = .whole := rfl
@[simp] theorem c_wary21 (r : Nat) : cf.wary 21 r = false := rfl
@[simp] theorem c_clone21 : cf.clone 21 = none := rfl
@[simp] theorem c_ord21 (r : Nat) : cf.ord 21 r = (none) := rfl
@[simp] theorem k_out21 : kn.out 21 = .frz [] := rfl
@[simp] theorem k_args21 : kn.args 21 = [[none, some (.i .i64)], [none, some (.i .i64)]] := rfl
@[simp] theorem k_nils21 : kn.nils 21 = fun _ => none := rfl
@[simp] theorem k_gc21 : kn.gc 21 = true := rfl
@[simp] theorem k_ali21 : kn.ali 21 = false := rfl
/-! 22: laws.markDy -/
@[simp] theorem c_keep22 (r : Nat) : cf.keep 22 r = tab22.getD r [] := rfl
@[simp] theorem c_pure22 : cf.pure 22 = false := rfl
@[simp] theorem c_pack22 : cf.pack 22 = .whole := rfl
@[simp] theorem c_wary22 (r : Nat) : cf.wary 22 r = false := rfl
@[simp] theorem c_clone22 : cf.clone 22 = none := rfl
@[simp] theorem c_ord22 (r : Nat) : cf.ord 22 r = (none) := rfl
@[simp] theorem k_out22 : kn.out 22 = .inl := rfl
@[simp] theorem k_args22 : kn.args 22 = [] := rfl
@[simp] theorem k_nils22 : kn.nils 22 = fun _ => none := rfl
@[simp] theorem k_gc22 : kn.gc 22 = false := rfl
@[simp] theorem k_ali22 : kn.ali 22 = false := rfl
/-! 23: laws.markByteS -/
@[simp] theorem c_keep23 (r : Nat) : cf.keep 23 r = tab23.getD r [] := rfl
@[simp] theorem c_pure23 : cf.pure 23 = false := rfl
@[simp] theorem c_pack23 : cf.pack 23 = .whole := rfl
@[simp] theorem c_wary23 (r : Nat) : cf.wary 23 r = false := rfl
@[simp] theorem c_clone23 : cf.clone 23 = none := rfl
@[simp] theorem c_ord23 (r : Nat) : cf.ord 23 r = (none) := rfl
@[simp] theorem k_out23 : kn.out 23 = .inl := rfl
@[simp] theorem k_args23 : kn.args 23 = [] := rfl
@[simp] theorem k_nils23 : kn.nils 23 = fun _ => none := rfl
@[simp] theorem k_gc23 : kn.gc 23 = false := rfl
@[simp] theorem k_ali23 : kn.ali 23 = false := rfl
/-! 24: laws.heldByteS -/
@[simp] theorem c_keep24 (r : Nat) : cf.keep 24 r = tab24.getD r [] := rfl
@[simp] theorem c_pure24 : cf.pure 24 = true := rfl
@[simp] theorem c_pack24 : cf.pack 24 = .whole := rfl
@[simp] theorem c_wary24 (r : Nat) : cf.wary 24 r = false := rfl
@[simp] theorem c_clone24 : cf.clone 24 = none := rfl
@[simp] theorem c_ord24 (r : Nat) : cf.ord 24 r = (none) := rfl
@[simp] theorem k_out24 : kn.out 24 = .frz [] := rfl
@[simp] theorem k_args24 : kn.args 24 = [[some (.i .u8)]] := rfl
@[simp] theorem k_nils24 : kn.nils 24 = fun _ => none := rfl
@[simp] theorem k_gc24 : kn.gc 24 = true := rfl
@[simp] theorem k_ali24 : kn.ali 24 = false := rfl
/-! 43: impl.within -/
@[simp] theorem c_keep43 (r : Nat) : cf.keep 43 r = tab43.getD r [] := rfl
@[simp] theorem c_pure43 : cf.pure 43 = true := rfl
@[simp] theorem c_pack43 : cf.pack 43 = .whole := rfl
@[simp] theorem c_wary43 (r : Nat) : cf.wary 43 r = false := rfl
@[simp] theorem c_clone43 : cf.clone 43 = none := rfl
@[simp] theorem c_ord43 (r : Nat) : cf.ord 43 r = (none) := rfl
@[simp] theorem k_out43 : kn.out 43 = .frz [] := rfl
@[simp] theorem k_args43 : kn.args 43 = [] := rfl
@[simp] theorem k_nils43 : kn.nils 43 = fun _ => none := rfl
@[simp] theorem k_gc43 : kn.gc 43 = true := rfl
@[simp] theorem k_ali43 : kn.ali 43 = false := rfl
/-! 46: laws.szWhole -/
@[simp] theorem c_keep46 (r : Nat) : cf.keep 46 r = tab46.getD r [] := rfl
@[simp] theorem c_pure46 : cf.pure 46 = true := rfl
@[simp] theorem c_pack46 : cf.pack 46 = .whole := rfl
@[simp] theorem c_wary46 (r : Nat) : cf.wary 46 r = false := rfl
@[simp] theorem c_clone46 : cf.clone 46 = none := rfl
@[simp] theorem c_ord46 (r : Nat) : cf.ord 46 r = (none) := rfl
@[simp] theorem k_out46 : kn.out 46 = .frz [] := rfl
@[simp] theorem k_args46 : kn.args 46 = [[none, some (.i .i64)]] := rfl
@[simp] theorem k_nils46 : kn.nils 46 = fun _ => none := rfl
@[simp] theorem k_gc46 : kn.gc 46 = true := rfl
@[simp] theorem k_ali46 : kn.ali 46 = false := rfl
/-! 47: spec.DyOk -/
@[simp] theorem c_keep47 (r : Nat) : cf.keep 47 r = tab47.getD r [] := rfl
@[simp] theorem c_pure47 : cf.pure 47 = true := rfl
@[simp] theorem c_pack47 : cf.pack 47 = .whole := rfl
@[simp] theorem c_wary47 (r : Nat) : cf.wary 47 r = false := rfl
@[simp] theorem c_clone47 : cf.clone 47 = none := rfl
@[simp] theorem c_ord47 (r : Nat) : cf.ord 47 r = (none) := rfl
@[simp] theorem k_out47 : kn.out 47 = .frz [] := rfl
@[simp] theorem k_args47 : kn.args 47 = [[none, some (.i .i64)]] := rfl
@[simp] theorem k_nils47 : kn.nils 47 = fun _ => none := rfl
@[simp] theorem k_gc47 : kn.gc 47 = true := rfl
@[simp] theorem k_ali47 : kn.ali 47 = false := rfl
/-! 48: spec.l4dec -/
@[simp] theorem c_keep48 (r : Nat) : cf.keep 48 r = tab48.getD r [] := rfl
@[simp] theorem c_pure48 : cf.pure 48 = true := rfl
@[simp] theorem c_pack48 : cf.pack 48 = .whole := rfl
@[simp] theorem c_wary48 (r : Nat) : cf.wary 48 r = false := rfl
@[simp] theorem c_clone48 : cf.clone 48 = none := rfl
@[simp] theorem c_ord48 (r : Nat) : cf.ord 48 r = (if r = 15 then some [0, 1, 2, 3, 4, 5, 6, 8, 7, 9, 10, 11, 12, 13, 14, 15, 16, 17] else none) := rfl
@[simp] theorem k_out48 : kn.out 48 = .frz [[some (.i .u8)]] := rfl
@[simp] theorem k_args48 : kn.args 48 = [[none, some (.i .i64)]] := rfl
@[simp] theorem k_nils48 : kn.nils 48 = fun _ => none := rfl
@[simp] theorem k_gc48 : kn.gc 48 = true := rfl
@[simp] theorem k_ali48 : kn.ali 48 = false := rfl
/-! 49: laws.toWhole -/
@[simp] theorem c_keep49 (r : Nat) : cf.keep 49 r = tab49.getD r [] := rfl
@[simp] theorem c_pure49 : cf.pure 49 = true := rfl
@[simp] theorem c_pack49 : cf.pack 49 = .whole := rfl
@[simp] theorem c_wary49 (r : Nat) : cf.wary 49 r = false := rfl
@[simp] theorem c_clone49 : cf.clone 49 = none := rfl
@[simp] theorem c_ord49 (r : Nat) : cf.ord 49 r = (none) := rfl
@[simp] theorem k_out49 : kn.out 49 = .own [[none, some (.i .i64)]] := rfl
@[simp] theorem k_args49 : kn.args 49 = [[none, some (.i .i64)]] := rfl
@[simp] theorem k_nils49 : kn.nils 49 = fun _ => none := rfl
@[simp] theorem k_gc49 : kn.gc 49 = true := rfl
@[simp] theorem k_ali49 : kn.ali 49 = false := rfl
/-! 50: impl.DyOk -/
@[simp] theorem c_keep50 (r : Nat) : cf.keep 50 r = tab50.getD r [] := rfl
@[simp] theorem c_pure50 : cf.pure 50 = true := rfl
@[simp] theorem c_pack50 : cf.pack 50 = .whole := rfl
@[simp] theorem c_wary50 (r : Nat) : cf.wary 50 r = false := rfl
@[simp] theorem c_clone50 : cf.clone 50 = none := rfl
@[simp] theorem c_ord50 (r : Nat) : cf.ord 50 r = (none) := rfl
@[simp] theorem k_out50 : kn.out 50 = .frz [] := rfl
@[simp] theorem k_args50 : kn.args 50 = [[none, some (.i .i64)]] := rfl
@[simp] theorem k_nils50 : kn.nils 50 = fun _ => none := rfl
@[simp] theorem k_gc50 : kn.gc 50 = true := rfl
@[simp] theorem k_ali50 : kn.ali 50 = false := rfl
/-! 51: impl.dyText -/
@[simp] theorem c_keep51 (r : Nat) : cf.keep 51 r = tab51.getD r [] := rfl
@[simp] theorem c_pure51 : cf.pure 51 = true := rfl
@[simp] theorem c_pack51 : cf.pack 51 = .whole := rfl
@[simp] theorem c_wary51 (r : Nat) : cf.wary 51 r = false := rfl
@[simp] theorem c_clone51 : cf.clone 51 = none := rfl
@[simp] theorem c_ord51 (r : Nat) : cf.ord 51 r = (none) := rfl
@[simp] theorem k_out51 : kn.out 51 = .own [[some (.i .u8)]] := rfl
@[simp] theorem k_args51 : kn.args 51 = [[none, some (.i .i64)]] := rfl
@[simp] theorem k_nils51 : kn.nils 51 = nil51 := rfl
@[simp] theorem k_gc51 : kn.gc 51 = true := rfl
@[simp] theorem k_ali51 : kn.ali 51 = false := rfl
/-! 52: laws.eqWhole -/
@[simp] theorem c_keep52 (r : Nat) : cf.keep 52 r = tab52.getD r [] := rfl
@[simp] theorem c_pure52 : cf.pure 52 = true := rfl
@[simp] theorem c_pack52 : cf.pack 52 = .whole := rfl
@[simp] theorem c_wary52 (r : Nat) : cf.wary 52 r = false := rfl
@[simp] theorem c_clone52 : cf.clone 52 = none := rfl
@[simp] theorem c_ord52 (r : Nat) : cf.ord 52 r = (none) := rfl
@[simp] theorem k_out52 : kn.out 52 = .frz [] := rfl
@[simp] theorem k_args52 : kn.args 52 = [[none, some (.i .i64)], [none, some (.i .i64)]] := rfl
@[simp] theorem k_nils52 : kn.nils 52 = fun _ => none := rfl
@[simp] theorem k_gc52 : kn.gc 52 = true := rfl
@[simp] theorem k_ali52 : kn.ali 52 = false := rfl
/-! 53: laws.markWhole -/
@[simp] theorem c_keep53 (r : Nat) : cf.keep 53 r = tab53.getD r [] := rfl
@[simp] theorem c_pure53 : cf.pure 53 = false := rfl
@[simp] theorem c_pack53 : cf.pack 53 = .whole := rfl
@[simp] theorem c_wary53 (r : Nat) : cf.wary 53 r = false := rfl
@[simp] theorem c_clone53 : cf.clone 53 = none := rfl
@[simp] theorem c_ord53 (r : Nat) : cf.ord 53 r = (none) := rfl
@[simp] theorem k_out53 : kn.out 53 = .inl := rfl
@[simp] theorem k_args53 : kn.args 53 = [] := rfl
@[simp] theorem k_nils53 : kn.nils 53 = fun _ => none := rfl
@[simp] theorem k_gc53 : kn.gc 53 = false := rfl
@[simp] theorem k_ali53 : kn.ali 53 = false := rfl
/-! 66: spec.l2text -/
@[simp] theorem c_keep66 (r : Nat) : cf.keep 66 r = tab66.getD r [] := rfl
@[simp] theorem c_pure66 : cf.pure 66 = true := rfl
@[simp] theorem c_pack66 : cf.pack 66 = .whole := rfl
@[simp] theorem c_wary66 (r : Nat) : cf.wary 66 r = false := rfl
@[simp] theorem c_clone66 : cf.clone 66 = none := rfl
@[simp] theorem c_ord66 (r : Nat) : cf.ord 66 r = (none) := rfl
@[simp] theorem k_out66 : kn.out 66 = .own [[some (.i .u8)]] := rfl
@[simp] theorem k_args66 : kn.args 66 = [[some (.i .i64)]] := rfl
@[simp] theorem k_nils66 : kn.nils 66 = nil66 := rfl
@[simp] theorem k_gc66 : kn.gc 66 = true := rfl
@[simp] theorem k_ali66 : kn.ali 66 = false := rfl
/-! 74: impl.times -/
@[simp] theorem c_keep74 (r : Nat) : cf.keep 74 r = tab74.getD r [] := rfl
@[simp] theorem c_pure74 : cf.pure 74 = true := rfl
@[simp] theorem c_pack74 : cf.pack 74 = .whole := rfl
@[simp] theorem c_wary74 (r : Nat) : cf.wary 74 r = false := rfl
@[simp] theorem c_clone74 : cf.clone 74 = none := rfl
@[simp] theorem c_ord74 (r : Nat) : cf.ord 74 r = (none) := rfl
@[simp] theorem k_out74 : kn.out 74 = .own [[some (.i .i64)]] := rfl
@[simp] theorem k_args74 : kn.args 74 = [[some (.i .i64)], [some (.i .i64)]] := rfl
@[simp] theorem k_nils74 : kn.nils 74 = nil74 := rfl
@[simp] theorem k_gc74 : kn.gc 74 = true := rfl
@[simp] theorem k_ali74 : kn.ali 74 = false := rfl
/-! 75: impl.small -/
@[simp] theorem c_keep75 (r : Nat) : cf.keep 75 r = tab75.getD r [] := rfl
@[simp] theorem c_pure75 : cf.pure 75 = true := rfl
@[simp] theorem c_pack75 : cf.pack 75 = .whole := rfl
@[simp] theorem c_wary75 (r : Nat) : cf.wary 75 r = false := rfl
@[simp] theorem c_clone75 : cf.clone 75 = none := rfl
@[simp] theorem c_ord75 (r : Nat) : cf.ord 75 r = (none) := rfl
@[simp] theorem k_out75 : kn.out 75 = .own [[some (.i .i64)]] := rfl
@[simp] theorem k_args75 : kn.args 75 = [] := rfl
@[simp] theorem k_nils75 : kn.nils 75 = nil75 := rfl
@[simp] theorem k_gc75 : kn.gc 75 = true := rfl
@[simp] theorem k_ali75 : kn.ali 75 = false := rfl
/-! 78: laws.szNat -/
@[simp] theorem c_keep78 (r : Nat) : cf.keep 78 r = tab78.getD r [] := rfl
@[simp] theorem c_pure78 : cf.pure 78 = true := rfl
@[simp] theorem c_pack78 : cf.pack 78 = .whole := rfl
@[simp] theorem c_wary78 (r : Nat) : cf.wary 78 r = false := rfl
@[simp] theorem c_clone78 : cf.clone 78 = none := rfl
@[simp] theorem c_ord78 (r : Nat) : cf.ord 78 r = (none) := rfl
@[simp] theorem k_out78 : kn.out 78 = .frz [] := rfl
@[simp] theorem k_args78 : kn.args 78 = [[some (.i .i64)]] := rfl
@[simp] theorem k_nils78 : kn.nils 78 = fun _ => none := rfl
@[simp] theorem k_gc78 : kn.gc 78 = true := rfl
@[simp] theorem k_ali78 : kn.ali 78 = false := rfl
/-! 79: spec.WholeOk -/
@[simp] theorem c_keep79 (r : Nat) : cf.keep 79 r = tab79.getD r [] := rfl
@[simp] theorem c_pure79 : cf.pure 79 = true := rfl
@[simp] theorem c_pack79 : cf.pack 79 = .whole := rfl
@[simp] theorem c_wary79 (r : Nat) : cf.wary 79 r = false := rfl
@[simp] theorem c_clone79 : cf.clone 79 = none := rfl
@[simp] theorem c_ord79 (r : Nat) : cf.ord 79 r = (none) := rfl
@[simp] theorem k_out79 : kn.out 79 = .frz [] := rfl
@[simp] theorem k_args79 : kn.args 79 = [[none, some (.i .i64)]] := rfl
@[simp] theorem k_nils79 : kn.nils 79 = fun _ => none := rfl
@[simp] theorem k_gc79 : kn.gc 79 = true := rfl
@[simp] theorem k_ali79 : kn.ali 79 = false := rfl
/-! 80: spec.l2bit -/
@[simp] theorem c_keep80 (r : Nat) : cf.keep 80 r = tab80.getD r [] := rfl
@[simp] theorem c_pure80 : cf.pure 80 = true := rfl
@[simp] theorem c_pack80 : cf.pack 80 = .whole := rfl
@[simp] theorem c_wary80 (r : Nat) : cf.wary 80 r = false := rfl
@[simp] theorem c_clone80 : cf.clone 80 = none := rfl
@[simp] theorem c_ord80 (r : Nat) : cf.ord 80 r = (none) := rfl
@[simp] theorem k_out80 : kn.out 80 = .frz [] := rfl
@[simp] theorem k_args80 : kn.args 80 = [[some (.i .i64)]] := rfl
@[simp] theorem k_nils80 : kn.nils 80 = fun _ => none := rfl
@[simp] theorem k_gc80 : kn.gc 80 = true := rfl
@[simp] theorem k_ali80 : kn.ali 80 = false := rfl
/-! 81: spec.l2shl -/
@[simp] theorem c_keep81 (r : Nat) : cf.keep 81 r = tab81.getD r [] := rfl
@[simp] theorem c_pure81 : cf.pure 81 = true := rfl
@[simp] theorem c_pack81 : cf.pack 81 = .whole := rfl
@[simp] theorem c_wary81 (r : Nat) : cf.wary 81 r = false := rfl
@[simp] theorem c_clone81 : cf.clone 81 = none := rfl
@[simp] theorem c_ord81 (r : Nat) : cf.ord 81 r = (none) := rfl
@[simp] theorem k_out81 : kn.out 81 = .frz [[some (.i .i64)]] := rfl
@[simp] theorem k_args81 : kn.args 81 = [[some (.i .i64)]] := rfl
@[simp] theorem k_nils81 : kn.nils 81 = fun _ => none := rfl
@[simp] theorem k_gc81 : kn.gc 81 = true := rfl
@[simp] theorem k_ali81 : kn.ali 81 = false := rfl
/-! 82: spec.l2mul -/
@[simp] theorem c_keep82 (r : Nat) : cf.keep 82 r = tab82.getD r [] := rfl
@[simp] theorem c_pure82 : cf.pure 82 = true := rfl
@[simp] theorem c_pack82 : cf.pack 82 = .whole := rfl
@[simp] theorem c_wary82 (r : Nat) : cf.wary 82 r = false := rfl
@[simp] theorem c_clone82 : cf.clone 82 = none := rfl
@[simp] theorem c_ord82 (r : Nat) : cf.ord 82 r = (none) := rfl
@[simp] theorem k_out82 : kn.out 82 = .frz [[some (.i .i64)]] := rfl
@[simp] theorem k_args82 : kn.args 82 = [[some (.i .i64)], [some (.i .i64)]] := rfl
@[simp] theorem k_nils82 : kn.nils 82 = fun _ => none := rfl
@[simp] theorem k_gc82 : kn.gc 82 = true := rfl
@[simp] theorem k_ali82 : kn.ali 82 = false := rfl
/-! 83: spec.l2of -/
@[simp] theorem c_keep83 (r : Nat) : cf.keep 83 r = tab83.getD r [] := rfl
@[simp] theorem c_pure83 : cf.pure 83 = true := rfl
@[simp] theorem c_pack83 : cf.pack 83 = .whole := rfl
@[simp] theorem c_wary83 (r : Nat) : cf.wary 83 r = false := rfl
@[simp] theorem c_clone83 : cf.clone 83 = none := rfl
@[simp] theorem c_ord83 (r : Nat) : cf.ord 83 r = (none) := rfl
@[simp] theorem k_out83 : kn.out 83 = .own [[some (.i .i64)]] := rfl
@[simp] theorem k_args83 : kn.args 83 = [] := rfl
@[simp] theorem k_nils83 : kn.nils 83 = nil83 := rfl
@[simp] theorem k_gc83 : kn.gc 83 = true := rfl
@[simp] theorem k_ali83 : kn.ali 83 = false := rfl
/-! 84: laws.toNat -/
@[simp] theorem c_keep84 (r : Nat) : cf.keep 84 r = tab84.getD r [] := rfl
@[simp] theorem c_pure84 : cf.pure 84 = true := rfl
@[simp] theorem c_pack84 : cf.pack 84 = .whole := rfl
@[simp] theorem c_wary84 (r : Nat) : cf.wary 84 r = false := rfl
@[simp] theorem c_clone84 : cf.clone 84 = none := rfl
@[simp] theorem c_ord84 (r : Nat) : cf.ord 84 r = (none) := rfl
@[simp] theorem k_out84 : kn.out 84 = .own [[some (.i .i64)]] := rfl
@[simp] theorem k_args84 : kn.args 84 = [[some (.i .i64)]] := rfl
@[simp] theorem k_nils84 : kn.nils 84 = fun _ => none := rfl
@[simp] theorem k_gc84 : kn.gc 84 = true := rfl
@[simp] theorem k_ali84 : kn.ali 84 = false := rfl
/-! 85: impl.WholeOk -/
@[simp] theorem c_keep85 (r : Nat) : cf.keep 85 r = tab85.getD r [] := rfl
@[simp] theorem c_pure85 : cf.pure 85 = true := rfl
@[simp] theorem c_pack85 : cf.pack 85 = .whole := rfl
@[simp] theorem c_wary85 (r : Nat) : cf.wary 85 r = false := rfl
@[simp] theorem c_clone85 : cf.clone 85 = none := rfl
@[simp] theorem c_ord85 (r : Nat) : cf.ord 85 r = (none) := rfl
@[simp] theorem k_out85 : kn.out 85 = .frz [] := rfl
@[simp] theorem k_args85 : kn.args 85 = [[none, some (.i .i64)]] := rfl
@[simp] theorem k_nils85 : kn.nils 85 = fun _ => none := rfl
@[simp] theorem k_gc85 : kn.gc 85 = true := rfl
@[simp] theorem k_ali85 : kn.ali 85 = false := rfl
/-! 86: impl.bitOf -/
@[simp] theorem c_keep86 (r : Nat) : cf.keep 86 r = tab86.getD r [] := rfl
@[simp] theorem c_pure86 : cf.pure 86 = true := rfl
@[simp] theorem c_pack86 : cf.pack 86 = .whole := rfl
@[simp] theorem c_wary86 (r : Nat) : cf.wary 86 r = false := rfl
@[simp] theorem c_clone86 : cf.clone 86 = none := rfl
@[simp] theorem c_ord86 (r : Nat) : cf.ord 86 r = (none) := rfl
@[simp] theorem k_out86 : kn.out 86 = .frz [] := rfl
@[simp] theorem k_args86 : kn.args 86 = [[some (.i .i64)]] := rfl
@[simp] theorem k_nils86 : kn.nils 86 = fun _ => none := rfl
@[simp] theorem k_gc86 : kn.gc 86 = true := rfl
@[simp] theorem k_ali86 : kn.ali 86 = false := rfl
/-! 87: impl.signedText -/
@[simp] theorem c_keep87 (r : Nat) : cf.keep 87 r = tab87.getD r [] := rfl
@[simp] theorem c_pure87 : cf.pure 87 = true := rfl
@[simp] theorem c_pack87 : cf.pack 87 = .whole := rfl
@[simp] theorem c_wary87 (r : Nat) : cf.wary 87 r = false := rfl
@[simp] theorem c_clone87 : cf.clone 87 = none := rfl
@[simp] theorem c_ord87 (r : Nat) : cf.ord 87 r = (none) := rfl
@[simp] theorem k_out87 : kn.out 87 = .inl := rfl
@[simp] theorem k_args87 : kn.args 87 = [[], [some (.i .u8)]] := rfl
@[simp] theorem k_nils87 : kn.nils 87 = nil87 := rfl
@[simp] theorem k_gc87 : kn.gc 87 = false := rfl
@[simp] theorem k_ali87 : kn.ali 87 = true := rfl
/-! 88: impl.digitsOf -/
@[simp] theorem c_keep88 (r : Nat) : cf.keep 88 r = tab88.getD r [] := rfl
@[simp] theorem c_pure88 : cf.pure 88 = true := rfl
@[simp] theorem c_pack88 : cf.pack 88 = .whole := rfl
@[simp] theorem c_wary88 (r : Nat) : cf.wary 88 r = false := rfl
@[simp] theorem c_clone88 : cf.clone 88 = none := rfl
@[simp] theorem c_ord88 (r : Nat) : cf.ord 88 r = (none) := rfl
@[simp] theorem k_out88 : kn.out 88 = .own [[some (.i .u8)]] := rfl
@[simp] theorem k_args88 : kn.args 88 = [[some (.i .i64)]] := rfl
@[simp] theorem k_nils88 : kn.nils 88 = nil88 := rfl
@[simp] theorem k_gc88 : kn.gc 88 = true := rfl
@[simp] theorem k_ali88 : kn.ali 88 = false := rfl
/-! 89: impl.down -/
@[simp] theorem c_keep89 (r : Nat) : cf.keep 89 r = tab89.getD r [] := rfl
@[simp] theorem c_pure89 : cf.pure 89 = true := rfl
@[simp] theorem c_pack89 : cf.pack 89 = .whole := rfl
@[simp] theorem c_wary89 (r : Nat) : cf.wary 89 r = false := rfl
@[simp] theorem c_clone89 : cf.clone 89 = none := rfl
@[simp] theorem c_ord89 (r : Nat) : cf.ord 89 r = (none) := rfl
@[simp] theorem k_out89 : kn.out 89 = .own [[some (.i .i64)]] := rfl
@[simp] theorem k_args89 : kn.args 89 = [[some (.i .i64)]] := rfl
@[simp] theorem k_nils89 : kn.nils 89 = nil89 := rfl
@[simp] theorem k_gc89 : kn.gc 89 = true := rfl
@[simp] theorem k_ali89 : kn.ali 89 = false := rfl
/-! 90: impl.up -/
@[simp] theorem c_keep90 (r : Nat) : cf.keep 90 r = tab90.getD r [] := rfl
@[simp] theorem c_pure90 : cf.pure 90 = true := rfl
@[simp] theorem c_pack90 : cf.pack 90 = .whole := rfl
@[simp] theorem c_wary90 (r : Nat) : cf.wary 90 r = false := rfl
@[simp] theorem c_clone90 : cf.clone 90 = none := rfl
@[simp] theorem c_ord90 (r : Nat) : cf.ord 90 r = (none) := rfl
@[simp] theorem k_out90 : kn.out 90 = .own [[some (.i .i64)]] := rfl
@[simp] theorem k_args90 : kn.args 90 = [[some (.i .i64)]] := rfl
@[simp] theorem k_nils90 : kn.nils 90 = nil90 := rfl
@[simp] theorem k_gc90 : kn.gc 90 = true := rfl
@[simp] theorem k_ali90 : kn.ali 90 = false := rfl
/-! 91: impl.minus -/
@[simp] theorem c_keep91 (r : Nat) : cf.keep 91 r = tab91.getD r [] := rfl
@[simp] theorem c_pure91 : cf.pure 91 = true := rfl
@[simp] theorem c_pack91 : cf.pack 91 = .whole := rfl
@[simp] theorem c_wary91 (r : Nat) : cf.wary 91 r = false := rfl
@[simp] theorem c_clone91 : cf.clone 91 = none := rfl
@[simp] theorem c_ord91 (r : Nat) : cf.ord 91 r = (none) := rfl
@[simp] theorem k_out91 : kn.out 91 = .own [[some (.i .i64)]] := rfl
@[simp] theorem k_args91 : kn.args 91 = [[some (.i .i64)], [some (.i .i64)]] := rfl
@[simp] theorem k_nils91 : kn.nils 91 = nil91 := rfl
@[simp] theorem k_gc91 : kn.gc 91 = true := rfl
@[simp] theorem k_ali91 : kn.ali 91 = false := rfl
/-! 92: impl.power -/
@[simp] theorem c_keep92 (r : Nat) : cf.keep 92 r = tab92.getD r [] := rfl
@[simp] theorem c_pure92 : cf.pure 92 = true := rfl
@[simp] theorem c_pack92 : cf.pack 92 = .whole := rfl
@[simp] theorem c_wary92 (r : Nat) : cf.wary 92 r = false := rfl
@[simp] theorem c_clone92 : cf.clone 92 = none := rfl
@[simp] theorem c_ord92 (r : Nat) : cf.ord 92 r = (none) := rfl
@[simp] theorem k_out92 : kn.out 92 = .own [[some (.i .i64)]] := rfl
@[simp] theorem k_args92 : kn.args 92 = [[some (.i .i64)]] := rfl
@[simp] theorem k_nils92 : kn.nils 92 = nil92 := rfl
@[simp] theorem k_gc92 : kn.gc 92 = true := rfl
@[simp] theorem k_ali92 : kn.ali 92 = false := rfl
/-! 93: slices.Repeat[[]byte,byte] -/
@[simp] theorem c_keep93 (r : Nat) : cf.keep 93 r = tab93.getD r [] := rfl
@[simp] theorem c_pure93 : cf.pure 93 = true := rfl
@[simp] theorem c_pack93 : cf.pack 93 = .whole := rfl
@[simp] theorem c_wary93 (r : Nat) : cf.wary 93 r = false := rfl
@[simp] theorem c_clone93 : cf.clone 93 = none := rfl
@[simp] theorem c_ord93 (r : Nat) : cf.ord 93 r = (none) := rfl
@[simp] theorem k_out93 : kn.out 93 = .own [[some (.i .u8)]] := rfl
@[simp] theorem k_args93 : kn.args 93 = [[some (.i .u8)]] := rfl
@[simp] theorem k_nils93 : kn.nils 93 = nil93 := rfl
@[simp] theorem k_gc93 : kn.gc 93 = true := rfl
@[simp] theorem k_ali93 : kn.ali 93 = false := rfl
/-! 94: laws.eqNat -/
@[simp] theorem c_keep94 (r : Nat) : cf.keep 94 r = tab94.getD r [] := rfl
@[simp] theorem c_pure94 : cf.pure 94 = true := rfl
@[simp] theorem c_pack94 : cf.pack 94 = .whole := rfl
@[simp] theorem c_wary94 (r : Nat) : cf.wary 94 r = false := rfl
@[simp] theorem c_clone94 : cf.clone 94 = none := rfl
@[simp] theorem c_ord94 (r : Nat) : cf.ord 94 r = (none) := rfl
@[simp] theorem k_out94 : kn.out 94 = .frz [] := rfl
@[simp] theorem k_args94 : kn.args 94 = [[some (.i .i64)], [some (.i .i64)]] := rfl
@[simp] theorem k_nils94 : kn.nils 94 = fun _ => none := rfl
@[simp] theorem k_gc94 : kn.gc 94 = true := rfl
@[simp] theorem k_ali94 : kn.ali 94 = false := rfl
/-! 95: laws.markNat -/
@[simp] theorem c_keep95 (r : Nat) : cf.keep 95 r = tab95.getD r [] := rfl
@[simp] theorem c_pure95 : cf.pure 95 = false := rfl
@[simp] theorem c_pack95 : cf.pack 95 = .whole := rfl
@[simp] theorem c_wary95 (r : Nat) : cf.wary 95 r = false := rfl
@[simp] theorem c_clone95 : cf.clone 95 = none := rfl
@[simp] theorem c_ord95 (r : Nat) : cf.ord 95 r = (none) := rfl
@[simp] theorem k_out95 : kn.out 95 = .inl := rfl
@[simp] theorem k_args95 : kn.args 95 = [] := rfl
@[simp] theorem k_nils95 : kn.nils 95 = fun _ => none := rfl
@[simp] theorem k_gc95 : kn.gc 95 = false := rfl
@[simp] theorem k_ali95 : kn.ali 95 = false := rfl
/-! 108: spec.l2small -/
@[simp] theorem c_keep108 (r : Nat) : cf.keep 108 r = tab108.getD r [] := rfl
@[simp] theorem c_pure108 : cf.pure 108 = true := rfl
@[simp] theorem c_pack108 : cf.pack 108 = .whole := rfl
@[simp] theorem c_wary108 (r : Nat) : cf.wary 108 r = false := rfl
@[simp] theorem c_clone108 : cf.clone 108 = none := rfl
@[simp] theorem c_ord108 (r : Nat) : cf.ord 108 r = (none) := rfl
@[simp] theorem k_out108 : kn.out 108 = .frz [[some (.i .i64)]] := rfl
@[simp] theorem k_args108 : kn.args 108 = [[some (.i .i64)]] := rfl
@[simp] theorem k_nils108 : kn.nils 108 = fun _ => none := rfl
@[simp] theorem k_gc108 : kn.gc 108 = true := rfl
@[simp] theorem k_ali108 : kn.ali 108 = false := rfl
/-! 109: spec.l2norm -/
@[simp] theorem c_keep109 (r : Nat) : cf.keep 109 r = tab109.getD r [] := rfl
@[simp] theorem c_pure109 : cf.pure 109 = true := rfl
@[simp] theorem c_pack109 : cf.pack 109 = .whole := rfl
@[simp] theorem c_wary109 (r : Nat) : cf.wary 109 r = false := rfl
@[simp] theorem c_clone109 : cf.clone 109 = none := rfl
@[simp] theorem c_ord109 (r : Nat) : cf.ord 109 r = (none) := rfl
@[simp] theorem k_out109 : kn.out 109 = .own [[some (.i .i64)]] := rfl
@[simp] theorem k_args109 : kn.args 109 = [[some (.i .i64)]] := rfl
@[simp] theorem k_nils109 : kn.nils 109 = fun _ => none := rfl
@[simp] theorem k_gc109 : kn.gc 109 = true := rfl
@[simp] theorem k_ali109 : kn.ali 109 = false := rfl
/-! 114: impl.trim -/
@[simp] theorem c_keep114 (r : Nat) : cf.keep 114 r = tab114.getD r [] := rfl
@[simp] theorem c_pure114 : cf.pure 114 = true := rfl
@[simp] theorem c_pack114 : cf.pack 114 = .whole := rfl
@[simp] theorem c_wary114 (r : Nat) : cf.wary 114 r = false := rfl
@[simp] theorem c_clone114 : cf.clone 114 = none := rfl
@[simp] theorem c_ord114 (r : Nat) : cf.ord 114 r = (none) := rfl
@[simp] theorem k_out114 : kn.out 114 = .inl := rfl
@[simp] theorem k_args114 : kn.args 114 = [[some (.i .i64)]] := rfl
@[simp] theorem k_nils114 : kn.nils 114 = nil114 := rfl
@[simp] theorem k_gc114 : kn.gc 114 = false := rfl
@[simp] theorem k_ali114 : kn.ali 114 = true := rfl
/-! 116: laws.szIntS -/
@[simp] theorem c_keep116 (r : Nat) : cf.keep 116 r = tab116.getD r [] := rfl
@[simp] theorem c_pure116 : cf.pure 116 = true := rfl
@[simp] theorem c_pack116 : cf.pack 116 = .whole := rfl
@[simp] theorem c_wary116 (r : Nat) : cf.wary 116 r = false := rfl
@[simp] theorem c_clone116 : cf.clone 116 = none := rfl
@[simp] theorem c_ord116 (r : Nat) : cf.ord 116 r = (none) := rfl
@[simp] theorem k_out116 : kn.out 116 = .frz [] := rfl
@[simp] theorem k_args116 : kn.args 116 = [[some (.i .i64)]] := rfl
@[simp] theorem k_nils116 : kn.nils 116 = fun _ => none := rfl
@[simp] theorem k_gc116 : kn.gc 116 = true := rfl
@[simp] theorem k_ali116 : kn.ali 116 = false := rfl
/-! 117: spec.NatOk -/
@[simp] theorem c_keep117 (r : Nat) : cf.keep 117 r = tab117.getD r [] := rfl
@[simp] theorem c_pure117 : cf.pure 117 = true := rfl
@[simp] theorem c_pack117 : cf.pack 117 = .whole := rfl
@[simp] theorem c_wary117 (r : Nat) : cf.wary 117 r = false := rfl
@[simp] theorem c_clone117 : cf.clone 117 = none := rfl
@[simp] theorem c_ord117 (r : Nat) : cf.ord 117 r = (none) := rfl
@[simp] theorem k_out117 : kn.out 117 = .frz [] := rfl
@[simp] theorem k_args117 : kn.args 117 = [[some (.i .i64)]] := rfl
@[simp] theorem k_nils117 : kn.nils 117 = fun _ => none := rfl
@[simp] theorem k_gc117 : kn.gc 117 = true := rfl
@[simp] theorem k_ali117 : kn.ali 117 = false := rfl
/-! 118: laws.toIntS -/
@[simp] theorem c_keep118 (r : Nat) : cf.keep 118 r = tab118.getD r [] := rfl
@[simp] theorem c_pure118 : cf.pure 118 = true := rfl
@[simp] theorem c_pack118 : cf.pack 118 = .whole := rfl
@[simp] theorem c_wary118 (r : Nat) : cf.wary 118 r = false := rfl
@[simp] theorem c_clone118 : cf.clone 118 = none := rfl
@[simp] theorem c_ord118 (r : Nat) : cf.ord 118 r = (none) := rfl
@[simp] theorem k_out118 : kn.out 118 = .own [[some (.i .i64)]] := rfl
@[simp] theorem k_args118 : kn.args 118 = [[some (.i .i64)]] := rfl
@[simp] theorem k_nils118 : kn.nils 118 = nil118 := rfl
@[simp] theorem k_gc118 : kn.gc 118 = true := rfl
@[simp] theorem k_ali118 : kn.ali 118 = false := rfl
/-! 119: impl.NatOk -/
@[simp] theorem c_keep119 (r : Nat) : cf.keep 119 r = tab119.getD r [] := rfl
@[simp] theorem c_pure119 : cf.pure 119 = true := rfl
@[simp] theorem c_pack119 : cf.pack 119 = .whole := rfl
@[simp] theorem c_wary119 (r : Nat) : cf.wary 119 r = false := rfl
@[simp] theorem c_clone119 : cf.clone 119 = none := rfl
@[simp] theorem c_ord119 (r : Nat) : cf.ord 119 r = (none) := rfl
@[simp] theorem k_out119 : kn.out 119 = .frz [] := rfl
@[simp] theorem k_args119 : kn.args 119 = [[some (.i .i64)]] := rfl
@[simp] theorem k_nils119 : kn.nils 119 = fun _ => none := rfl
@[simp] theorem k_gc119 : kn.gc 119 = true := rfl
@[simp] theorem k_ali119 : kn.ali 119 = false := rfl
/-! 120: impl.divideSmall -/
@[simp] theorem c_keep120 (r : Nat) : cf.keep 120 r = tab120.getD r [] := rfl
@[simp] theorem c_pure120 : cf.pure 120 = true := rfl
@[simp] theorem c_pack120 : cf.pack 120 = .whole := rfl
@[simp] theorem c_wary120 (r : Nat) : cf.wary 120 r = false := rfl
@[simp] theorem c_clone120 : cf.clone 120 = none := rfl
@[simp] theorem c_ord120 (r : Nat) : cf.ord 120 r = (none) := rfl
@[simp] theorem k_out120 : kn.out 120 = .own [[some (.i .i64)]] := rfl
@[simp] theorem k_args120 : kn.args 120 = [[some (.i .i64)]] := rfl
@[simp] theorem k_nils120 : kn.nils 120 = nil120 := rfl
@[simp] theorem k_gc120 : kn.gc 120 = true := rfl
@[simp] theorem k_ali120 : kn.ali 120 = false := rfl
/-! 121: slices.Reverse[[]byte,byte] -/
@[simp] theorem c_keep121 (r : Nat) : cf.keep 121 r = tab121.getD r [] := rfl
@[simp] theorem c_pure121 : cf.pure 121 = false := rfl
@[simp] theorem c_pack121 : cf.pack 121 = .whole := rfl
@[simp] theorem c_wary121 (r : Nat) : cf.wary 121 r = false := rfl
@[simp] theorem c_clone121 : cf.clone 121 = none := rfl
@[simp] theorem c_ord121 (r : Nat) : cf.ord 121 r = (none) := rfl
@[simp] theorem k_out121 : kn.out 121 = .inl := rfl
@[simp] theorem k_args121 : kn.args 121 = [] := rfl
@[simp] theorem k_nils121 : kn.nils 121 = fun _ => none := rfl
@[simp] theorem k_gc121 : kn.gc 121 = false := rfl
@[simp] theorem k_ali121 : kn.ali 121 = false := rfl
/-! 122: math/bits.Mul -/
@[simp] theorem c_keep122 (r : Nat) : cf.keep 122 r = tab122.getD r [] := rfl
@[simp] theorem c_pure122 : cf.pure 122 = true := rfl
@[simp] theorem c_pack122 : cf.pack 122 = .whole := rfl
@[simp] theorem c_wary122 (r : Nat) : cf.wary 122 r = false := rfl
@[simp] theorem c_clone122 : cf.clone 122 = none := rfl
@[simp] theorem c_ord122 (r : Nat) : cf.ord 122 r = (none) := rfl
@[simp] theorem k_out122 : kn.out 122 = .frz [] := rfl
@[simp] theorem k_args122 : kn.args 122 = [] := rfl
@[simp] theorem k_nils122 : kn.nils 122 = fun _ => none := rfl
@[simp] theorem k_gc122 : kn.gc 122 = true := rfl
@[simp] theorem k_ali122 : kn.ali 122 = false := rfl
/-! 123: laws.eqIntS -/
@[simp] theorem c_keep123 (r : Nat) : cf.keep 123 r = tab123.getD r [] := rfl
@[simp] theorem c_pure123 : cf.pure 123 = true := rfl
@[simp] theorem c_pack123 : cf.pack 123 = .whole := rfl
@[simp] theorem c_wary123 (r : Nat) : cf.wary 123 r = false := rfl
@[simp] theorem c_clone123 : cf.clone 123 = none := rfl
@[simp] theorem c_ord123 (r : Nat) : cf.ord 123 r = (none) := rfl
@[simp] theorem k_out123 : kn.out 123 = .frz [] := rfl
@[simp] theorem k_args123 : kn.args 123 = [[some (.i .i64)], [some (.i .i64)]] := rfl
@[simp] theorem k_nils123 : kn.nils 123 = fun _ => none := rfl
@[simp] theorem k_gc123 : kn.gc 123 = true := rfl
@[simp] theorem k_ali123 : kn.ali 123 = false := rfl
/-! 124: laws.markIntS -/
@[simp] theorem c_keep124 (r : Nat) : cf.keep 124 r = tab124.getD r [] := rfl
@[simp] theorem c_pure124 : cf.pure 124 = false := rfl
@[simp] theorem c_pack124 : cf.pack 124 = .whole := rfl
@[simp] theorem c_wary124 (r : Nat) : cf.wary 124 r = false := rfl
@[simp] theorem c_clone124 : cf.clone 124 = none := rfl
@[simp] theorem c_ord124 (r : Nat) : cf.ord 124 r = (none) := rfl
@[simp] theorem k_out124 : kn.out 124 = .inl := rfl
@[simp] theorem k_args124 : kn.args 124 = [] := rfl
@[simp] theorem k_nils124 : kn.nils 124 = fun _ => none := rfl
@[simp] theorem k_gc124 : kn.gc 124 = false := rfl
@[simp] theorem k_ali124 : kn.ali 124 = false := rfl
/-! 133: impl.areAll[int] -/
@[simp] theorem c_keep133 (r : Nat) : cf.keep 133 r = tab133.getD r [] := rfl
@[simp] theorem c_pure133 : cf.pure 133 = true := rfl
@[simp] theorem c_pack133 : cf.pack 133 = .whole := rfl
@[simp] theorem c_wary133 (r : Nat) : cf.wary 133 r = false := rfl
@[simp] theorem c_clone133 : cf.clone 133 = none := rfl
@[simp] theorem c_ord133 (r : Nat) : cf.ord 133 r = (none) := rfl
@[simp] theorem k_out133 : kn.out 133 = .frz [] := rfl
@[simp] theorem k_args133 : kn.args 133 = [[some (.i .i64)]] := rfl
@[simp] theorem k_nils133 : kn.nils 133 = fun _ => none := rfl
@[simp] theorem k_gc133 : kn.gc 133 = true := rfl
@[simp] theorem k_ali133 : kn.ali 133 = false := rfl
/-! 134: impl.NatOk$1 -/
@[simp] theorem c_keep134 (r : Nat) : cf.keep 134 r = tab134.getD r [] := rfl
@[simp] theorem c_pure134 : cf.pure 134 = true := rfl
@[simp] theorem c_pack134 : cf.pack 134 = .whole := rfl
@[simp] theorem c_wary134 (r : Nat) : cf.wary 134 r = false := rfl
@[simp] theorem c_clone134 : cf.clone 134 = none := rfl
@[simp] theorem c_ord134 (r : Nat) : cf.ord 134 r = (none) := rfl
@[simp] theorem k_out134 : kn.out 134 = .frz [] := rfl
@[simp] theorem k_args134 : kn.args 134 = [] := rfl
@[simp] theorem k_nils134 : kn.nils 134 = fun _ => none := rfl
@[simp] theorem k_gc134 : kn.gc 134 = true := rfl
@[simp] theorem k_ali134 : kn.ali 134 = false := rfl
/-! 135: math/bits.Mul32 -/
@[simp] theorem c_keep135 (r : Nat) : cf.keep 135 r = tab135.getD r [] := rfl
@[simp] theorem c_pure135 : cf.pure 135 = true := rfl
@[simp] theorem c_pack135 : cf.pack 135 = .whole := rfl
@[simp] theorem c_wary135 (r : Nat) : cf.wary 135 r = false := rfl
@[simp] theorem c_clone135 : cf.clone 135 = none := rfl
@[simp] theorem c_ord135 (r : Nat) : cf.ord 135 r = (none) := rfl
@[simp] theorem k_out135 : kn.out 135 = .frz [] := rfl
@[simp] theorem k_args135 : kn.args 135 = [] := rfl
@[simp] theorem k_nils135 : kn.nils 135 = fun _ => none := rfl
@[simp] theorem k_gc135 : kn.gc 135 = true := rfl
@[simp] theorem k_ali135 : kn.ali 135 = false := rfl
/-! 136: math/bits.Mul64 -/
@[simp] theorem c_keep136 (r : Nat) : cf.keep 136 r = tab136.getD r [] := rfl
@[simp] theorem c_pure136 : cf.pure 136 = true := rfl
@[simp] theorem c_pack136 : cf.pack 136 = .whole := rfl
@[simp] theorem c_wary136 (r : Nat) : cf.wary 136 r = false := rfl
@[simp] theorem c_clone136 : cf.clone 136 = none := rfl
@[simp] theorem c_ord136 (r : Nat) : cf.ord 136 r = (none) := rfl
@[simp] theorem k_out136 : kn.out 136 = .frz [] := rfl
@[simp] theorem k_args136 : kn.args 136 = [] := rfl
@[simp] theorem k_nils136 : kn.nils 136 = fun _ => none := rfl
@[simp] theorem k_gc136 : kn.gc 136 = true := rfl
@[simp] theorem k_ali136 : kn.ali 136 = false := rfl
/-! 146: slices.ContainsFunc[[]int,int] -/
@[simp] theorem c_keep146 (r : Nat) : cf.keep 146 r = tab146.getD r [] := rfl
@[simp] theorem c_pure146 : cf.pure 146 = true := rfl
@[simp] theorem c_pack146 : cf.pack 146 = .whole := rfl
@[simp] theorem c_wary146 (r : Nat) : cf.wary 146 r = false := rfl
@[simp] theorem c_clone146 : cf.clone 146 = none := rfl
@[simp] theorem c_ord146 (r : Nat) : cf.ord 146 r = (none) := rfl
@[simp] theorem k_out146 : kn.out 146 = .frz [] := rfl
@[simp] theorem k_args146 : kn.args 146 = [[some (.i .i64)]] := rfl
@[simp] theorem k_nils146 : kn.nils 146 = fun _ => none := rfl
@[simp] theorem k_gc146 : kn.gc 146 = true := rfl
@[simp] theorem k_ali146 : kn.ali 146 = false := rfl
/-! 147: impl.areAll[int]$1 -/
@[simp] theorem c_keep147 (r : Nat) : cf.keep 147 r = tab147.getD r [] := rfl
@[simp] theorem c_pure147 : cf.pure 147 = true := rfl
@[simp] theorem c_pack147 : cf.pack 147 = .whole := rfl
@[simp] theorem c_wary147 (r : Nat) : cf.wary 147 r = false := rfl
@[simp] theorem c_clone147 : cf.clone 147 = none := rfl
@[simp] theorem c_ord147 (r : Nat) : cf.ord 147 r = (none) := rfl
@[simp] theorem k_out147 : kn.out 147 = .frz [] := rfl
@[simp] theorem k_args147 : kn.args 147 = [] := rfl
@[simp] theorem k_nils147 : kn.nils 147 = fun _ => none := rfl
@[simp] theorem k_gc147 : kn.gc 147 = true := rfl
@[simp] theorem k_ali147 : kn.ali 147 = false := rfl
/-! 155: slices.IndexFunc[[]int,int] -/
@[simp] theorem c_keep155 (r : Nat) : cf.keep 155 r = tab155.getD r [] := rfl
@[simp] theorem c_pure155 : cf.pure 155 = true := rfl
@[simp] theorem c_pack155 : cf.pack 155 = .whole := rfl
@[simp] theorem c_wary155 (r : Nat) : cf.wary 155 r = false := rfl
@[simp] theorem c_clone155 : cf.clone 155 = none := rfl
@[simp] theorem c_ord155 (r : Nat) : cf.ord 155 r = (none) := rfl
@[simp] theorem k_out155 : kn.out 155 = .frz [] := rfl
@[simp] theorem k_args155 : kn.args 155 = [[some (.i .i64)]] := rfl
@[simp] theorem k_nils155 : kn.nils 155 = fun _ => none := rfl
@[simp] theorem k_gc155 : kn.gc 155 = true := rfl
@[simp] theorem k_ali155 : kn.ali 155 = false := rfl
theorem kept0 : ((impL ++ aliL).all fun f => (match kn.out f with | .inl => true | _ => false) && !kn.gc f) = true := by kernel_rfl
theorem kept1 (f : FuncId) : (cf.pure f = true ∧ kn.ali f = false) ∨ (kn.out f = .inl ∧ kn.gc f = false) := by
  cases hb : (impL ++ aliL).contains f with
  | false =>
    have h1 : ¬ f ∈ impL ++ aliL := fun h => by rw [List.contains_iff_mem.2 h] at hb; simp at hb
    rw [List.mem_append] at h1
    refine .inl ⟨?_, ?_⟩
    · show (!impL.contains f) = true
      cases h2 : impL.contains f with
      | false => rfl
      | true => exact absurd (.inl (List.contains_iff_mem.1 h2)) h1
    · show aliL.contains f = false
      cases h2 : aliL.contains f with
      | false => rfl
      | true => exact absurd (.inr (List.contains_iff_mem.1 h2)) h1
  | true =>
    have h := List.all_eq_true.1 kept0 f (List.contains_iff_mem.1 hb)
    rw [Bool.and_eq_true] at h
    refine .inr ⟨?_, by simpa using h.2⟩
    cases ho : kn.out f with
    | inl => rfl
    | own ks => rw [ho] at h; simp at h
    | frz ks => rw [ho] at h; simp at h
theorem kept : Kept kn where
  gc f hg := (kept1 f).resolve_right fun h => by rw [h.2] at hg; simp at hg
  out f := (kept1 f).symm.imp (fun h ks e => by rw [h.1] at e; cases e) id
  own f := (kept1 f).symm.imp (fun h ks e => by rw [h.1] at e; cases e) id
/-- What the proof of the engine asks of a function. -/
def staticF (cf : Cfg) (f : FuncId) (m : PM) (fn : Func) : Bool := match m with
  | .no => true
  | _ => match fn.body with
    | some c => codeOk cf f fn.ntmps c && !(fn.name == "runtime.NumGoroutine")
    | none => true
theorem static_all : ((List.range Try.prog.funcs.size).all fun f => Try.prog.funcs[f]?.all (staticF cf f (cf.pack f))) = true := by kernel_rfl
theorem static : Static Try.prog cf := fun f fn c hf hb hno => by
  have h := List.all_eq_true.1 static_all f (List.mem_range.2 (Array.getElem?_eq_some_iff.1 hf).1)
  rw [hf] at h
  simp only [Option.all_some] at h
  unfold staticF at h
  split at h
  · rename_i e; exact absurd e hno
  · rw [hb] at h; simpa using h
theorem clones : CloneOK Try.prog cf := fun f k h => by cases h
@[simp] theorem c_rounds : cf.rounds = 4294967296 := rfl
end Go.Eng
