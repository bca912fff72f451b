/- The value engine: the tables of this seat: types, and of each function what its regions and its calls leave. Printed by a program of this session. No conditions. -/
import Derived.Test.YtkfeofjgdijbeaaProg
import Derived.Test.YtkfeofjgdijbeaaVb
import Derived.KernelRfl
set_option linter.unusedVariables false
set_option linter.unusedSimpArgs false
namespace Go.Eng
open Go.Proofs
set_option maxRecDepth 100000
@[simp] theorem ty_u_3 : Try.prog.underlying 3 = some (.int .i64) := by kernel_rfl
@[simp] theorem ty_k_3 : kindOf Try.prog 3 = some .i64 := by kernel_rfl
@[simp] theorem ty_a_3 : aggT Try.prog 3 = some false := by kernel_rfl
@[simp] theorem ty_s_3 : sizeT Try.prog 3 = some 1 := by kernel_rfl
@[simp] theorem ty_b_3 : bytesT Try.prog 3 = some 8 := by kernel_rfl
@[simp] theorem ty_z_3 : zeroT Try.prog 3 = some (.c (.int .i64 0)) := by kernel_rfl
@[simp] theorem ty_u_4 : Try.prog.underlying 4 = some (.bool) := by kernel_rfl
@[simp] theorem ty_k_4 : kindOf Try.prog 4 = none := by kernel_rfl
@[simp] theorem ty_a_4 : aggT Try.prog 4 = some false := by kernel_rfl
@[simp] theorem ty_s_4 : sizeT Try.prog 4 = some 1 := by kernel_rfl
@[simp] theorem ty_b_4 : bytesT Try.prog 4 = some 1 := by kernel_rfl
@[simp] theorem ty_z_4 : zeroT Try.prog 4 = some (.c (.bool false)) := by kernel_rfl
@[simp] theorem ty_u_24 : Try.prog.underlying 24 = some (.slice 3) := by kernel_rfl
@[simp] theorem ty_k_24 : kindOf Try.prog 24 = none := by kernel_rfl
@[simp] theorem ty_a_24 : aggT Try.prog 24 = some false := by kernel_rfl
@[simp] theorem ty_s_24 : sizeT Try.prog 24 = some 1 := by kernel_rfl
@[simp] theorem ty_b_24 : bytesT Try.prog 24 = some 24 := by kernel_rfl
@[simp] theorem ty_e_24 : elemS Try.prog 24 = some 3 := by kernel_rfl
@[simp] theorem ty_z_24 : zeroT Try.prog 24 = some (.c (.nil)) := by kernel_rfl
@[simp] theorem ty_k_26 : kindOf Try.prog 26 = none := by kernel_rfl
@[simp] theorem ty_a_26 : aggT Try.prog 26 = some true := by kernel_rfl
@[simp] theorem ty_s_26 : sizeT Try.prog 26 = some 1 := by kernel_rfl
@[simp] theorem ty_b_26 : bytesT Try.prog 26 = some 24 := by kernel_rfl
@[simp] theorem ty_z_26 : zeroT Try.prog 26 = some (.agg [.nil]) := by kernel_rfl
@[simp] theorem ty_f_26_0 : fieldOf Try.prog 26 0 = some (0, 1, false) := by kernel_rfl
@[simp] theorem ty_p_26 : placesB Try.prog 26 = some [(0, 1)] := by kernel_rfl
@[simp] theorem ty_k_28 : kindOf Try.prog 28 = none := by kernel_rfl
@[simp] theorem ty_a_28 : aggT Try.prog 28 = some true := by kernel_rfl
@[simp] theorem ty_s_28 : sizeT Try.prog 28 = some 2 := by kernel_rfl
@[simp] theorem ty_b_28 : bytesT Try.prog 28 = some 32 := by kernel_rfl
@[simp] theorem ty_z_28 : zeroT Try.prog 28 = some (.agg [.bool false, .nil]) := by kernel_rfl
@[simp] theorem ty_f_28_0 : fieldOf Try.prog 28 0 = some (0, 1, false) := by kernel_rfl
@[simp] theorem ty_f_28_1 : fieldOf Try.prog 28 1 = some (1, 1, true) := by kernel_rfl
@[simp] theorem ty_p_28 : placesB Try.prog 28 = some [(0, 1), (1, 1)] := by kernel_rfl
@[simp] theorem ty_k_33 : kindOf Try.prog 33 = none := by kernel_rfl
@[simp] theorem ty_a_33 : aggT Try.prog 33 = some false := by kernel_rfl
@[simp] theorem ty_s_33 : sizeT Try.prog 33 = some 1 := by kernel_rfl
@[simp] theorem ty_b_33 : bytesT Try.prog 33 = some 8 := by kernel_rfl
@[simp] theorem ty_k_37 : kindOf Try.prog 37 = none := by kernel_rfl
@[simp] theorem ty_a_37 : aggT Try.prog 37 = some true := by kernel_rfl
@[simp] theorem ty_s_37 : sizeT Try.prog 37 = some 1 := by kernel_rfl
@[simp] theorem ty_b_37 : bytesT Try.prog 37 = some 24 := by kernel_rfl
@[simp] theorem ty_z_37 : zeroT Try.prog 37 = some (.agg [.nil]) := by kernel_rfl
@[simp] theorem ty_f_37_0 : fieldOf Try.prog 37 0 = some (0, 1, false) := by kernel_rfl
@[simp] theorem ty_p_37 : placesB Try.prog 37 = some [(0, 1)] := by kernel_rfl
@[simp] theorem ty_k_39 : kindOf Try.prog 39 = none := by kernel_rfl
@[simp] theorem ty_a_39 : aggT Try.prog 39 = some true := by kernel_rfl
@[simp] theorem ty_s_39 : sizeT Try.prog 39 = some 2 := by kernel_rfl
@[simp] theorem ty_b_39 : bytesT Try.prog 39 = some 32 := by kernel_rfl
@[simp] theorem ty_z_39 : zeroT Try.prog 39 = some (.agg [.bool false, .nil]) := by kernel_rfl
@[simp] theorem ty_f_39_0 : fieldOf Try.prog 39 0 = some (0, 1, false) := by kernel_rfl
@[simp] theorem ty_f_39_1 : fieldOf Try.prog 39 1 = some (1, 1, true) := by kernel_rfl
@[simp] theorem ty_p_39 : placesB Try.prog 39 = some [(0, 1), (1, 1)] := by kernel_rfl
@[simp] theorem ty_k_41 : kindOf Try.prog 41 = none := by kernel_rfl
@[simp] theorem ty_a_41 : aggT Try.prog 41 = some true := by kernel_rfl
@[simp] theorem ty_s_41 : sizeT Try.prog 41 = some 3 := by kernel_rfl
@[simp] theorem ty_b_41 : bytesT Try.prog 41 = some 40 := by kernel_rfl
@[simp] theorem ty_z_41 : zeroT Try.prog 41 = some (.agg [.bool false, .nil, .int .i64 0]) := by kernel_rfl
@[simp] theorem ty_f_41_0 : fieldOf Try.prog 41 0 = some (0, 2, true) := by kernel_rfl
@[simp] theorem ty_f_41_1 : fieldOf Try.prog 41 1 = some (2, 1, false) := by kernel_rfl
@[simp] theorem ty_p_41 : placesB Try.prog 41 = some [(0, 2), (2, 1)] := by kernel_rfl
@[simp] theorem ty_k_46 : kindOf Try.prog 46 = none := by kernel_rfl
@[simp] theorem ty_a_46 : aggT Try.prog 46 = some true := by kernel_rfl
@[simp] theorem ty_s_46 : sizeT Try.prog 46 = some 3 := by kernel_rfl
@[simp] theorem ty_b_46 : bytesT Try.prog 46 = some 40 := by kernel_rfl
@[simp] theorem ty_z_46 : zeroT Try.prog 46 = some (.agg [.bool false, .nil, .int .i64 0]) := by kernel_rfl
@[simp] theorem ty_f_46_0 : fieldOf Try.prog 46 0 = some (0, 2, true) := by kernel_rfl
@[simp] theorem ty_f_46_1 : fieldOf Try.prog 46 1 = some (2, 1, false) := by kernel_rfl
@[simp] theorem ty_p_46 : placesB Try.prog 46 = some [(0, 2), (2, 1)] := by kernel_rfl
@[simp] theorem ty_u_52 : Try.prog.underlying 52 = some (.slice 41) := by kernel_rfl
@[simp] theorem ty_k_52 : kindOf Try.prog 52 = none := by kernel_rfl
@[simp] theorem ty_a_52 : aggT Try.prog 52 = some false := by kernel_rfl
@[simp] theorem ty_s_52 : sizeT Try.prog 52 = some 1 := by kernel_rfl
@[simp] theorem ty_b_52 : bytesT Try.prog 52 = some 24 := by kernel_rfl
@[simp] theorem ty_e_52 : elemS Try.prog 52 = some 41 := by kernel_rfl
@[simp] theorem ty_z_52 : zeroT Try.prog 52 = some (.c (.nil)) := by kernel_rfl
@[simp] theorem ty_k_54 : kindOf Try.prog 54 = none := by kernel_rfl
@[simp] theorem ty_a_54 : aggT Try.prog 54 = some true := by kernel_rfl
@[simp] theorem ty_s_54 : sizeT Try.prog 54 = some 2 := by kernel_rfl
@[simp] theorem ty_b_54 : bytesT Try.prog 54 = some 32 := by kernel_rfl
@[simp] theorem ty_z_54 : zeroT Try.prog 54 = some (.agg [.int .i64 0, .nil]) := by kernel_rfl
@[simp] theorem ty_f_54_0 : fieldOf Try.prog 54 0 = some (0, 1, false) := by kernel_rfl
@[simp] theorem ty_f_54_1 : fieldOf Try.prog 54 1 = some (1, 1, false) := by kernel_rfl
@[simp] theorem ty_p_54 : placesB Try.prog 54 = some [(0, 1), (1, 1)] := by kernel_rfl
@[simp] theorem ty_u_57 : Try.prog.underlying 57 = some (.slice 46) := by kernel_rfl
@[simp] theorem ty_k_57 : kindOf Try.prog 57 = none := by kernel_rfl
@[simp] theorem ty_a_57 : aggT Try.prog 57 = some false := by kernel_rfl
@[simp] theorem ty_s_57 : sizeT Try.prog 57 = some 1 := by kernel_rfl
@[simp] theorem ty_b_57 : bytesT Try.prog 57 = some 24 := by kernel_rfl
@[simp] theorem ty_e_57 : elemS Try.prog 57 = some 46 := by kernel_rfl
@[simp] theorem ty_z_57 : zeroT Try.prog 57 = some (.c (.nil)) := by kernel_rfl
@[simp] theorem ty_k_59 : kindOf Try.prog 59 = none := by kernel_rfl
@[simp] theorem ty_a_59 : aggT Try.prog 59 = some true := by kernel_rfl
@[simp] theorem ty_s_59 : sizeT Try.prog 59 = some 2 := by kernel_rfl
@[simp] theorem ty_b_59 : bytesT Try.prog 59 = some 32 := by kernel_rfl
@[simp] theorem ty_z_59 : zeroT Try.prog 59 = some (.agg [.int .i64 0, .nil]) := by kernel_rfl
@[simp] theorem ty_f_59_0 : fieldOf Try.prog 59 0 = some (0, 1, false) := by kernel_rfl
@[simp] theorem ty_f_59_1 : fieldOf Try.prog 59 1 = some (1, 1, false) := by kernel_rfl
@[simp] theorem ty_p_59 : placesB Try.prog 59 = some [(0, 1), (1, 1)] := by kernel_rfl
@[simp] theorem ty_k_79 : kindOf Try.prog 79 = none := by kernel_rfl
@[simp] theorem ty_a_79 : aggT Try.prog 79 = some false := by kernel_rfl
@[simp] theorem ty_s_79 : sizeT Try.prog 79 = some 1 := by kernel_rfl
@[simp] theorem ty_b_79 : bytesT Try.prog 79 = some 8 := by kernel_rfl
@[simp] theorem ty_u_86 : Try.prog.underlying 86 = some (.slice 124) := by kernel_rfl
@[simp] theorem ty_k_86 : kindOf Try.prog 86 = none := by kernel_rfl
@[simp] theorem ty_a_86 : aggT Try.prog 86 = some false := by kernel_rfl
@[simp] theorem ty_s_86 : sizeT Try.prog 86 = some 1 := by kernel_rfl
@[simp] theorem ty_b_86 : bytesT Try.prog 86 = some 24 := by kernel_rfl
@[simp] theorem ty_e_86 : elemS Try.prog 86 = some 124 := by kernel_rfl
@[simp] theorem ty_z_86 : zeroT Try.prog 86 = some (.c (.nil)) := by kernel_rfl
@[simp] theorem ty_k_88 : kindOf Try.prog 88 = none := by kernel_rfl
@[simp] theorem ty_a_88 : aggT Try.prog 88 = some true := by kernel_rfl
@[simp] theorem ty_s_88 : sizeT Try.prog 88 = some 2 := by kernel_rfl
@[simp] theorem ty_b_88 : bytesT Try.prog 88 = some 32 := by kernel_rfl
@[simp] theorem ty_z_88 : zeroT Try.prog 88 = some (.agg [.int .i64 0, .nil]) := by kernel_rfl
@[simp] theorem ty_f_88_0 : fieldOf Try.prog 88 0 = some (0, 1, false) := by kernel_rfl
@[simp] theorem ty_f_88_1 : fieldOf Try.prog 88 1 = some (1, 1, false) := by kernel_rfl
@[simp] theorem ty_p_88 : placesB Try.prog 88 = some [(0, 1), (1, 1)] := by kernel_rfl
@[simp] theorem ty_k_124 : kindOf Try.prog 124 = none := by kernel_rfl
@[simp] theorem ty_a_124 : aggT Try.prog 124 = some true := by kernel_rfl
@[simp] theorem ty_s_124 : sizeT Try.prog 124 = some 3 := by kernel_rfl
@[simp] theorem ty_b_124 : bytesT Try.prog 124 = some 40 := by kernel_rfl
@[simp] theorem ty_z_124 : zeroT Try.prog 124 = some (.agg [.bool false, .nil, .int .i64 0]) := by kernel_rfl
@[simp] theorem ty_f_124_0 : fieldOf Try.prog 124 0 = some (0, 1, false) := by kernel_rfl
@[simp] theorem ty_f_124_1 : fieldOf Try.prog 124 1 = some (1, 1, false) := by kernel_rfl
@[simp] theorem ty_f_124_2 : fieldOf Try.prog 124 2 = some (2, 1, false) := by kernel_rfl
@[simp] theorem ty_p_124 : placesB Try.prog 124 = some [(0, 1), (1, 1), (2, 1)] := by kernel_rfl
@[simp] theorem ty_u_126 : Try.prog.underlying 126 = some (.slice 86) := by kernel_rfl
@[simp] theorem ty_k_126 : kindOf Try.prog 126 = none := by kernel_rfl
@[simp] theorem ty_a_126 : aggT Try.prog 126 = some false := by kernel_rfl
@[simp] theorem ty_s_126 : sizeT Try.prog 126 = some 1 := by kernel_rfl
@[simp] theorem ty_b_126 : bytesT Try.prog 126 = some 24 := by kernel_rfl
@[simp] theorem ty_e_126 : elemS Try.prog 126 = some 86 := by kernel_rfl
@[simp] theorem ty_z_126 : zeroT Try.prog 126 = some (.c (.nil)) := by kernel_rfl
@[simp] theorem ty_k_130 : kindOf Try.prog 130 = none := by kernel_rfl
@[simp] theorem ty_a_130 : aggT Try.prog 130 = some false := by kernel_rfl
@[simp] theorem ty_s_130 : sizeT Try.prog 130 = some 1 := by kernel_rfl
@[simp] theorem ty_b_130 : bytesT Try.prog 130 = some 8 := by kernel_rfl
def tab5 : List (List Nat) := [[1], [1, 3], [1, 3], [1, 11], [2], [1, 4], [1, 4, 5], [1, 4, 5, 6], [1, 5, 21], [2], [26], [2], [2]]
def tab16 : List (List Nat) := [[1, 2], [1], [1, 10], [4], [4]]
def tab18 : List (List Nat) := [[1, 2], [1, 2, 3], [1, 2, 3], [2, 3], [2]]
def tab21 : List (List Nat) := [[2, 3], [2, 3, 10], [4], [15], [4], [4]]
def tab25 : List (List Nat) := [[1, 2], [1], [1, 10], [4], [4]]
def tab26 : List (List Nat) := [[1], [1, 5], [2], [2]]
def tab27 : List (List Nat) := [[1, 2], [1, 2, 3], [1, 2, 3], [2, 3], [2]]
def tab28 : List (List Nat) := [[1], [1, 5], [2], [2]]
def tab29 : List (List Nat) := [[2, 3], [2, 3, 9], [4], [15], [4], [4]]
def tab43 : List (List Nat) := [[0, 1, 2], [6]]
def tab46 : List (List Nat) := [[1, 2], [1], [1, 10], [4], [4]]
def tab47 : List (List Nat) := [[1], [1, 16], [2], [1, 22], [2], [2]]
def tab49 : List (List Nat) := [[1, 2], [1, 2, 3], [1, 2, 3], [2, 3], [2]]
def tab50 : List (List Nat) := [[1], [1, 12], [2], [2]]
def tab52 : List (List Nat) := [[2, 3], [2, 3, 9], [4], [15], [4], [4]]
def tab54 : List (List Nat) := [[0, 1], [0, 1], [0, 1, 11], [4], [0, 1, 5], [0, 1, 5, 15], [0, 1, 5], [0, 1, 5], [0, 1, 5, 25], [4], [4]]
def tab55 : List (List Nat) := [[1], [1, 22], [2], [1, 3], [1, 3, 27], [1, 3], [1, 3, 36], [2], [2]]
def tab56 : List (List Nat) := [[1], [1, 3], [1, 3, 4], [1, 3, 4, 12], [1, 3, 4], [1, 3, 4, 5], [1, 3, 4, 5, 19], [1, 3, 4, 5], [1, 3, 4, 5, 6, 7], [1, 3, 4, 5, 6, 44], [1, 3, 4, 5], [2]]
def tab57 : List (List Nat) := [[0], [0, 3], [0, 3, 4], [0, 3, 4, 11], [0, 3, 4], [0, 3, 4], [2]]
def tab58 : List (List Nat) := [[1], [2]]
def tab59 : List (List Nat) := [[1, 2], [1, 2, 3], [2, 3, 10, 11, 12], [2, 3, 10, 11, 12, 13], [2, 3, 5, 10, 11, 12], [2, 3, 10, 11, 12], [2, 3, 10, 11, 12], [2]]
def tab60 : List (List Nat) := [[1], [1, 3], [1, 3, 17, 18], [1, 3, 17, 18, 19], [1, 3, 4, 17, 18], [1, 3, 17, 18], [1, 3, 17, 18], [1, 3, 5], [3, 5, 39, 40], [3, 5, 39, 40, 41], [3, 5, 6, 39, 40], [3, 5, 6, 7, 39, 40], [3, 5, 6, 7, 39, 40, 49], [3, 5, 6, 39, 40], [3, 5, 6, 8, 39, 40], [3, 5, 6, 8, 39, 40], [3, 5, 6, 8, 39, 40, 76, 77, 78], [3, 5, 6, 8, 39, 40, 76, 77, 78, 79], [3, 5, 6, 8, 10, 39, 40, 76, 77, 78], [3, 5, 6, 8, 10, 11, 39, 40, 76, 77, 78], [3, 5, 6, 8, 10, 11, 39, 40, 76, 77, 78, 87, 88], [3, 5, 6, 8, 10, 11, 39, 40, 76, 77, 78, 87, 88, 89], [3, 5, 6, 8, 10, 11, 12, 39, 40, 76, 77, 78, 87, 88], [3, 5, 6, 8, 10, 11, 39, 40, 76, 77, 78, 87, 88], [3, 5, 6, 8, 10, 11, 39, 40, 76, 77, 78, 87, 88], [3, 5, 6, 8, 39, 40, 76, 77, 78], [3, 5, 39, 40], [2]]
def tab61 : List (List Nat) := [[0, 1], [0, 1, 10], [4], [0, 1, 5], [0, 1, 5, 14], [0, 1, 5], [0, 1, 5, 26], [4], [4]]
def tab67 : List (List Nat) := [[0, 3, 4], [4]]
def tab73 : List (List Nat) := [[0, 1], [0, 1, 13], [0, 1], [0, 1, 5], [0, 1, 5, 6], [1, 5, 6, 20, 21, 22], [1, 5, 6, 20, 21, 22, 23], [1, 5, 6, 7, 8, 20, 21, 22], [1, 5, 6, 7, 20, 21, 22], [1, 5, 6, 7, 20, 21, 22, 33], [1, 5, 6, 20, 21, 22], [1, 5, 6, 20, 21, 22], [1, 5, 6, 20, 21, 22], [1, 5, 6, 20, 21, 22], [4]]
def tab74 : List (List Nat) := [[0, 1], [0, 1, 5], [1, 5, 17, 18, 19], [1, 5, 17, 18, 19, 20], [1, 5, 6, 7, 17, 18, 19], [1, 5, 6, 7, 8, 17, 18, 19], [1, 5, 6, 7, 8, 17, 18, 19, 24, 25, 26], [1, 5, 6, 7, 8, 17, 18, 19, 24, 25, 26, 27], [1, 5, 6, 7, 8, 9, 10, 17, 18, 19, 24, 25, 26], [1, 5, 6, 7, 8, 9, 17, 18, 19, 24, 25, 26], [1, 5, 6, 7, 8, 17, 18, 19, 24, 25, 26], [1, 5, 6, 7, 8, 17, 18, 19, 24, 25, 26], [1, 5, 6, 7, 8, 17, 18, 19, 24, 25, 26], [1, 5, 17, 18, 19], [1, 5, 17, 18, 19], [4]]
def tab78 : List (List Nat) := [[1, 2], [1], [1, 10], [4], [4]]
def tab79 : List (List Nat) := [[1], [2]]
def tab80 : List (List Nat) := [[1, 2], [1, 2, 14], [4], [4]]
def tab81 : List (List Nat) := [[1, 2, 4], [1, 2, 4, 8], [4], [4]]
def tab82 : List (List Nat) := [[2, 3, 4], [2, 3, 4, 5], [2, 3, 4, 5, 6], [2, 3, 4, 5, 6, 22], [2, 3, 4, 5, 6], [2, 3, 4, 5, 6, 7], [2, 3, 4, 5, 6, 7, 8], [2, 3, 4, 5, 6, 7, 8, 29], [2, 3, 4, 5, 6, 7, 8], [2, 3, 4, 5, 6, 8, 9], [2, 3, 4, 5, 6, 8, 9], [2, 3, 4, 5, 6, 7, 8], [2, 3, 4, 5, 6], [4]]
def tab83 : List (List Nat) := [[0, 2], [0, 2, 3], [0, 2, 3, 5], [0, 2, 3], [0, 2, 3], [2]]
def tab84 : List (List Nat) := [[1, 2], [1, 2, 3], [2, 3], [2]]
def tab85 : List (List Nat) := [[1], [2]]
def tab86 : List (List Nat) := [[0, 1], [0, 1, 13], [4], [4]]
def tab90 : List (List Nat) := [[0, 1], [0, 1, 11], [4], [0, 1, 5], [0, 1, 5, 6], [1, 5, 6, 21, 22, 23], [1, 5, 6, 21, 22, 23, 24], [1, 5, 6, 8, 21, 22, 23], [1, 5, 6, 21, 22, 23], [1, 5, 6, 21, 22, 23], [1, 5, 6, 21, 22, 23], [1, 5, 6, 21, 22, 23], [4]]
def tab91 : List (List Nat) := [[0, 1], [0, 1, 5], [0, 1, 5, 6], [1, 5, 6, 12, 13, 14], [1, 5, 6, 12, 13, 14, 15], [1, 5, 6, 7, 8, 12, 13, 14], [1, 5, 7, 8, 12, 13, 14], [1, 5, 7, 8, 12, 13, 14, 25], [1, 5, 8, 12, 13, 14], [1, 5, 6, 8, 12, 13, 14], [1, 5, 6, 8, 12, 13, 14, 33], [1, 5, 8, 12, 13, 14], [1, 5, 6, 8, 12, 13, 14], [1, 5, 6, 12, 13, 14], [1, 5, 6, 12, 13, 14], [4]]
def tab94 : List (List Nat) := [[2, 3], [10], [4], [4]]
def tab96 : List (List Nat) := [[1, 2, 3, 6], [1, 2, 3, 6, 8], [1, 2, 3, 6, 8, 9, 10], [1, 2, 3, 6, 8, 9, 10, 11], [1, 2, 3, 6, 8, 9, 10, 11, 17], [1, 2, 3, 6, 8, 9, 10, 11], [1, 2, 3, 6, 8, 9, 10, 11], [1, 2, 3, 6, 8, 9, 10, 11], [1, 2, 3, 6, 8, 9, 38], [6, 7], [1, 2, 3, 6, 8], [1, 2, 3, 6, 8, 12], [1, 2, 3, 6, 8, 12, 45], [1, 2, 3, 6, 8, 12], [1, 2, 3, 6, 8, 12, 13], [1, 2, 3, 6, 8, 12, 13, 51], [1, 2, 3, 6, 8, 12, 13], [1, 2, 3, 6, 8, 12, 13, 65], [1, 2, 3, 6, 8, 12, 13], [6, 7]]
def tab97 : List (List Nat) := [[1, 2], [1, 2, 8], [2], [1, 2, 3], [1, 2, 3, 4], [1, 2, 3, 4, 16], [1, 2, 3, 4], [1, 2, 3, 4, 5], [1, 2, 3, 4, 5, 31], [1, 2, 3, 4, 5], [1, 2, 3, 4], [2]]
def tab98 : List (List Nat) := [[0], [2]]
def tab99 : List (List Nat) := [[1, 2], [2]]
def tab100 : List (List Nat) := [[0], [0, 4], [2], [2]]
def tab101 : List (List Nat) := [[0, 1], [0, 1, 7, 8], [0, 1, 7, 8, 9], [0, 1, 5, 7, 8], [0, 1, 5, 7, 8, 16], [4], [0, 1, 7, 8], [4]]
def tab102 : List (List Nat) := [[0, 1], [3]]
def tab103 : List (List Nat) := [[1], [2]]
def tab104 : List (List Nat) := [[2, 3, 4], [2, 3, 4, 5], [4]]
def tab105 : List (List Nat) := [[2, 3, 4], [4]]
def tab108 : List (List Nat) := [[1, 2, 4], [1, 2, 4, 6], [1, 2, 4, 6, 7], [1, 2, 4, 6, 7, 8], [1, 2, 4, 6, 7, 8, 19], [1, 2, 4, 6, 7, 8], [1, 2, 4, 6, 8, 9], [1, 2, 4, 6, 8, 9], [1, 2, 4, 6, 7, 8], [4, 5]]
def tab109 : List (List Nat) := [[0, 2], [0, 2, 3], [0, 2, 3, 15], [0, 2, 3], [2]]
def tab114 : List (List Nat) := [[0], [0, 14], [0], [2]]
def tab116 : List (List Nat) := [[0, 1], [1], [1, 10], [4], [4]]
def tab117 : List (List Nat) := [[1], [1, 7], [2], [1, 3], [1, 3, 12], [1, 3], [1, 3, 28], [2], [2]]
def tab118 : List (List Nat) := [[0], [0, 3], [0, 3, 4], [0, 3, 4, 11], [0, 3, 4], [0, 3, 4], [2]]
def tab119 : List (List Nat) := [[1], [2]]
def tab123 : List (List Nat) := [[0, 1], [0, 1, 10], [4], [0, 1, 5], [0, 1, 5, 14], [0, 1, 5], [0, 1, 5, 25], [4], [4]]
def tab125 : List (List Nat) := [[2, 3, 4], [4]]
def tab126 : List (List Nat) := [[1, 2, 3, 6], [1, 2, 3, 6, 7], [1, 2, 3, 6, 7, 8], [1, 2, 3, 6, 7, 8, 17], [1, 2, 3, 6, 7, 8], [1, 2, 3, 6, 7, 8, 9], [1, 2, 3, 6, 7, 8, 9, 23], [1, 2, 3, 6, 7, 8, 9], [1, 2, 3, 6, 7, 8, 9, 33], [1, 2, 3, 6, 7, 8, 9], [6]]
def tab127 : List (List Nat) := [[1, 2], [2]]
def tab128 : List (List Nat) := [[2, 3, 4], [4, 5, 6, 7], [4]]
def tab129 : List (List Nat) := [[0, 3], [4]]
def tab130 : List (List Nat) := [[2, 3, 4], [2, 3, 4, 5, 6, 7], [4, 7, 8, 9], [4]]
def tab131 : List (List Nat) := [[1, 2], [2]]
def tab133 : List (List Nat) := [[0, 3], [4]]
def tab134 : List (List Nat) := [[0], [2]]
def tab137 : List (List Nat) := [[1, 2, 4], [1, 2, 4, 10], [4], [1, 2, 4, 5], [4]]
def tab138 : List (List Nat) := [[2, 3, 4], [4]]
def tab139 : List (List Nat) := [[1, 2], [2]]
def tab140 : List (List Nat) := [[2, 3, 4, 5], [2, 3, 4, 5, 12], [4, 5, 6], [2, 3, 4, 5, 24], [4, 5, 6], [2, 3, 4, 5, 35], [4, 5, 6], [4, 5, 6]]
def tab141 : List (List Nat) := [[2, 3, 4], [2, 3, 4, 9], [4], [2, 3, 4, 23], [4], [4]]
def tab142 : List (List Nat) := [[0, 1], [4]]
def tab143 : List (List Nat) := [[1, 2], [3]]
def tab144 : List (List Nat) := [[2, 3], [2, 3, 7], [2, 3, 7, 16], [2, 3, 7], [2, 3, 7, 22], [2, 3, 7], [4, 5, 6]]
def tab145 : List (List Nat) := [[0, 1, 2, 3], [0, 1, 2, 3, 10], [8, 9], [0, 1, 2, 3, 18], [8, 9], [8, 9]]
def tab146 : List (List Nat) := [[0, 1], [4]]
def tab147 : List (List Nat) := [[0, 1], [3]]
def tab148 : List (List Nat) := [[1], [1, 3], [1, 3, 9], [1, 3], [1, 3, 15], [2], [2]]
def tab149 : List (List Nat) := [[1, 2, 4], [1, 2, 4, 12], [4], [4, 5], [4]]
def tab150 : List (List Nat) := [[2, 3, 4], [2, 3, 4, 5], [2, 3, 4, 5, 6], [2, 3, 4, 5, 6, 7], [2, 3, 4, 5, 6, 7, 24], [2, 3, 4, 5, 6, 7], [2, 3, 4, 5, 7, 8], [2, 3, 4, 5, 7, 8, 32], [2, 3, 4, 5, 7, 8], [2, 3, 4, 5, 7, 8, 44], [2, 3, 4, 5, 7, 8], [2, 3, 4, 5, 7, 8], [2, 3, 4, 5, 6, 7], [4]]
def tab151 : List (List Nat) := [[2, 3], [2, 3, 12], [19], [4], [4], [2, 3, 5], [2, 3, 5, 25], [2, 3, 5], [2, 3, 5, 38], [4], [2, 3, 5, 49], [4], [4]]
def tab152 : List (List Nat) := [[2, 3, 4], [2, 3, 4, 5], [2, 3, 4, 5, 6], [2, 3, 4, 5, 6, 7], [2, 3, 4, 5, 6, 7, 13], [2, 3, 4, 5, 6, 7], [2, 3, 4, 5, 7, 8], [2, 3, 4, 5, 7, 8, 27], [2, 3, 4, 5, 7, 8], [2, 3, 4, 5, 6, 7, 8], [2, 3, 4, 5, 6, 7, 8, 36], [2, 3, 4, 5, 7, 8], [2, 3, 4, 5, 6, 7, 8], [2, 3, 4, 5, 6, 7], [4]]
def tab153 : List (List Nat) := [[0, 1], [0, 1, 7, 8], [0, 1, 7, 8, 9], [0, 1, 5, 7, 8], [0, 1, 5, 7, 8, 16], [4], [0, 1, 7, 8], [4]]
def tab154 : List (List Nat) := [[0, 1], [0, 1, 10], [4], [0, 1, 5], [0, 1, 5, 20], [0, 1, 5], [0, 1, 5, 31], [4], [4]]
def tab155 : List (List Nat) := [[0, 1], [0, 1, 7, 8], [0, 1, 7, 8, 9], [0, 1, 5, 7, 8], [0, 1, 5, 7, 8, 16], [4], [0, 1, 7, 8], [4]]
def tab156 : List (List Nat) := [[0, 1], [0, 1, 5], [0, 1, 5, 6], [0, 1, 6, 11], [12], [4], [4], [0, 1, 13], [4], [0, 1, 16], [4], [19], [4], [4]]
def tab157 : List (List Nat) := [[0], [2]]
def tabs : Nat → List (List Nat)
  | 5 => tab5
  | 16 => tab16
  | 18 => tab18
  | 21 => tab21
  | 25 => tab25
  | 26 => tab26
  | 27 => tab27
  | 28 => tab28
  | 29 => tab29
  | 43 => tab43
  | 46 => tab46
  | 47 => tab47
  | 49 => tab49
  | 50 => tab50
  | 52 => tab52
  | 54 => tab54
  | 55 => tab55
  | 56 => tab56
  | 57 => tab57
  | 58 => tab58
  | 59 => tab59
  | 60 => tab60
  | 61 => tab61
  | 67 => tab67
  | 73 => tab73
  | 74 => tab74
  | 78 => tab78
  | 79 => tab79
  | 80 => tab80
  | 81 => tab81
  | 82 => tab82
  | 83 => tab83
  | 84 => tab84
  | 85 => tab85
  | 86 => tab86
  | 90 => tab90
  | 91 => tab91
  | 94 => tab94
  | 96 => tab96
  | 97 => tab97
  | 98 => tab98
  | 99 => tab99
  | 100 => tab100
  | 101 => tab101
  | 102 => tab102
  | 103 => tab103
  | 104 => tab104
  | 105 => tab105
  | 108 => tab108
  | 109 => tab109
  | 114 => tab114
  | 116 => tab116
  | 117 => tab117
  | 118 => tab118
  | 119 => tab119
  | 123 => tab123
  | 125 => tab125
  | 126 => tab126
  | 127 => tab127
  | 128 => tab128
  | 129 => tab129
  | 130 => tab130
  | 131 => tab131
  | 133 => tab133
  | 134 => tab134
  | 137 => tab137
  | 138 => tab138
  | 139 => tab139
  | 140 => tab140
  | 141 => tab141
  | 142 => tab142
  | 143 => tab143
  | 144 => tab144
  | 145 => tab145
  | 146 => tab146
  | 147 => tab147
  | 148 => tab148
  | 149 => tab149
  | 150 => tab150
  | 151 => tab151
  | 152 => tab152
  | 153 => tab153
  | 154 => tab154
  | 155 => tab155
  | 156 => tab156
  | 157 => tab157
  | _ => []
def impL : List Nat := []
def aliL : List Nat := [114]
def gcL : List Nat := [16, 18, 21, 25, 26, 28, 29, 43, 46, 47, 49, 50, 52, 54, 55, 56, 58, 59, 61, 67, 73, 74, 78, 79, 80, 81, 82, 83, 84, 85, 86, 90, 91, 94, 96, 97, 98, 99, 100, 101, 102, 103, 104, 105, 108, 109, 116, 117, 118, 119, 123, 125, 126, 127, 128, 129, 130, 131, 133, 134, 137, 138, 139, 140, 141, 142, 143, 144, 145, 146, 147, 148, 149, 150, 151, 152, 153, 154, 155, 156, 157]
def ownL : List Nat := [5, 16, 18, 21, 25, 26, 27, 28, 29, 43, 46, 47, 49, 50, 52, 54, 55, 56, 57, 58, 59, 60, 61, 67, 73, 74, 78, 79, 80, 81, 82, 83, 84, 85, 86, 90, 91, 94, 96, 97, 98, 99, 100, 101, 102, 103, 104, 105, 108, 109, 114, 116, 117, 118, 119, 123, 125, 126, 127, 128, 129, 130, 131, 133, 134, 137, 138, 139, 140, 141, 142, 143, 144, 145, 146, 147, 148, 149, 150, 151, 152, 153, 154, 155, 156, 157]
def cf : Cfg where
  pure := fun f => !impL.contains f
  keep := fun f r => (tabs f).getD r []
  pack := fun f => if ownL.contains f then .whole else .no
  clone := fun f => match f with
    | _ => none
  glob := fun _ => none
  rounds := 4294967296
  wary := fun f r => match f with
    | 140 => true
    | _ => false
  emt := fun _ => false
  papp := fun _ => false
def nil57 (t : Nat) : Option NK := if t = 2 then some (.s 3) else none
def nil73 (t : Nat) : Option NK := if t = 4 then some (.i .i64) else none
def nil74 (t : Nat) : Option NK := if t = 4 then some (.i .i64) else none
def nil83 (t : Nat) : Option NK := if t = 3 then some (.i .i64) else none
def nil90 (t : Nat) : Option NK := if t = 4 then some (.i .i64) else none
def nil91 (t : Nat) : Option NK := if t = 4 then some (.i .i64) else none
def nil100 (t : Nat) : Option NK := if t = 2 then some (.s 3) else none
def nil114 (t : Nat) : Option NK := if t = 2 then some (.i .i64) else none
def nil118 (t : Nat) : Option NK := if t = 2 then some (.i .i64) else none
def nil144 (t : Nat) : Option NK := if t = 4 then some (.i .i64) else if t = 5 then some (.i .i64) else none
def nil145 (t : Nat) : Option NK := if t = 9 then some (.i .i64) else none
def nil150 (t : Nat) : Option NK := if t = 5 then some (.i .i64) else none
def nil152 (t : Nat) : Option NK := if t = 5 then some (.i .i64) else none
def kn : Kn where
  cf := cf
  out := fun f => match f with
    | 5 => .frz []
    | 16 => .frz []
    | 18 => .frz [[none, some (.i .i64)]]
    | 21 => .frz []
    | 25 => .frz []
    | 26 => .frz []
    | 27 => .frz [[none, some (.s 3)]]
    | 28 => .frz []
    | 29 => .frz []
    | 43 => .frz []
    | 46 => .frz []
    | 47 => .frz []
    | 49 => .frz [[none, some (.i .i64)]]
    | 50 => .frz []
    | 52 => .frz []
    | 54 => .frz []
    | 55 => .frz []
    | 56 => .frz []
    | 57 => .frz [[some (.s 3)]]
    | 58 => .frz []
    | 59 => .frz [[none, some (.s 3)]]
    | 60 => .frz []
    | 61 => .frz []
    | 67 => .frz [[none, some (.i .i64)]]
    | 73 => .own [[some (.i .i64)]]
    | 74 => .own [[some (.i .i64)]]
    | 78 => .frz []
    | 79 => .frz []
    | 80 => .frz []
    | 81 => .frz [[some (.i .i64)]]
    | 82 => .frz [[some (.i .i64)]]
    | 83 => .own [[some (.i .i64)]]
    | 84 => .frz [[some (.i .i64)]]
    | 85 => .frz []
    | 86 => .frz []
    | 90 => .own [[some (.i .i64)]]
    | 91 => .own [[some (.i .i64)]]
    | 94 => .frz []
    | 96 => .frz [[none, some (.s 3)]]
    | 97 => .frz [[none, some (.i .i64)]]
    | 98 => .frz []
    | 99 => .frz [[none, some (.i .i64)]]
    | 100 => .own [[some (.s 3)]]
    | 101 => .frz []
    | 102 => .frz []
    | 103 => .frz []
    | 104 => .frz [[none, some (.i .i64)]]
    | 105 => .frz [[none, some (.i .i64)]]
    | 108 => .frz [[some (.i .i64)]]
    | 109 => .own [[some (.i .i64)]]
    | 114 => .inl
    | 116 => .frz []
    | 117 => .frz []
    | 118 => .frz [[some (.i .i64)]]
    | 119 => .frz []
    | 123 => .frz []
    | 125 => .frz [[none, some (.i .i64)]]
    | 126 => .frz [[none, some (.s 3)]]
    | 127 => .frz [[none, some (.i .i64)]]
    | 128 => .frz [[none, some (.i .i64)]]
    | 129 => .frz []
    | 130 => .frz [[none, some (.i .i64)]]
    | 131 => .frz [[none, some (.i .i64)]]
    | 133 => .frz []
    | 134 => .frz []
    | 137 => .frz [[none, some (.i .i64)]]
    | 138 => .frz [[none, some (.i .i64)]]
    | 139 => .frz [[none, some (.i .i64)]]
    | 140 => .frz [[none, some (.i .i64)], [none, some (.i .i64)]]
    | 141 => .frz [[none, some (.i .i64)]]
    | 142 => .frz []
    | 143 => .frz []
    | 144 => .frz [[some (.i .i64)], [some (.i .i64)]]
    | 145 => .frz [[], [some (.i .i64)]]
    | 146 => .frz []
    | 147 => .frz []
    | 148 => .frz []
    | 149 => .frz [[some (.i .i64)]]
    | 150 => .frz [[some (.i .i64)]]
    | 151 => .frz []
    | 152 => .frz [[some (.i .i64)]]
    | 153 => .frz []
    | 154 => .frz []
    | 155 => .frz []
    | 156 => .frz []
    | 157 => .frz []
    | _ => .inl
  args := fun f => match f with
    | 5 => [[none, some (.s 3)]]
    | 16 => [[none, some (.i .i64)]]
    | 18 => [[none, some (.i .i64)]]
    | 21 => [[none, some (.i .i64)], [none, some (.i .i64)]]
    | 25 => [[none, some (.s 3)]]
    | 26 => [[none, some (.s 3)]]
    | 27 => [[none, some (.s 3)]]
    | 28 => [[none, some (.s 3)]]
    | 29 => [[none, some (.s 3)], [none, some (.s 3)]]
    | 46 => [[none, some (.i .i64)]]
    | 47 => [[none, some (.i .i64)]]
    | 49 => [[none, some (.i .i64)]]
    | 50 => [[none, some (.i .i64)]]
    | 52 => [[none, some (.i .i64)], [none, some (.i .i64)]]
    | 54 => [[some (.s 3)]]
    | 55 => [[none, some (.s 3)]]
    | 56 => [[none, some (.s 3)]]
    | 57 => [[some (.s 3)]]
    | 58 => [[none, some (.s 3)]]
    | 59 => [[none, some (.s 3)]]
    | 60 => [[none, some (.s 3)]]
    | 61 => [[some (.s 3)], [some (.s 3)]]
    | 67 => [[], [some (.i .i64)]]
    | 73 => [[some (.i .i64)], [some (.i .i64)]]
    | 74 => [[some (.i .i64)], [some (.i .i64)]]
    | 78 => [[some (.i .i64)]]
    | 79 => [[none, some (.i .i64)]]
    | 80 => [[some (.i .i64)]]
    | 81 => [[some (.i .i64)]]
    | 82 => [[some (.i .i64)], [some (.i .i64)]]
    | 84 => [[some (.i .i64)]]
    | 85 => [[none, some (.i .i64)]]
    | 86 => [[some (.i .i64)]]
    | 90 => [[some (.i .i64)]]
    | 91 => [[some (.i .i64)], [some (.i .i64)]]
    | 94 => [[some (.i .i64)], [some (.i .i64)]]
    | 96 => [[none, some (.s 3)]]
    | 97 => [[none, some (.s 3)]]
    | 98 => [[some (.s 3)]]
    | 99 => [[none, some (.i .i64)]]
    | 100 => [[some (.s 3)]]
    | 101 => [[some (.s 1)]]
    | 102 => [[some (.s 3)]]
    | 103 => [[none, some (.i .i64)]]
    | 104 => [[none, some (.i .i64)], [none, some (.i .i64)]]
    | 105 => [[none, some (.i .i64)], [none, some (.i .i64)]]
    | 108 => [[some (.i .i64)]]
    | 109 => [[some (.i .i64)]]
    | 114 => [[some (.i .i64)]]
    | 116 => [[some (.i .i64)]]
    | 117 => [[some (.i .i64)]]
    | 118 => [[some (.i .i64)]]
    | 119 => [[some (.i .i64)]]
    | 123 => [[some (.i .i64)], [some (.i .i64)]]
    | 125 => [[none, some (.i .i64)], [none, some (.i .i64)]]
    | 126 => [[none, some (.s 3)]]
    | 127 => [[none, some (.i .i64)]]
    | 128 => [[none, some (.i .i64)], [none, some (.i .i64)]]
    | 129 => [[some (.s 3)]]
    | 130 => [[none, some (.i .i64)], [none, some (.i .i64)]]
    | 131 => [[none, some (.i .i64)]]
    | 133 => [[some (.i .i64)]]
    | 137 => [[none, some (.i .i64)]]
    | 138 => [[none, some (.i .i64)], [none, some (.i .i64)]]
    | 139 => [[none, some (.i .i64)]]
    | 140 => [[none, some (.i .i64)], [none, some (.i .i64)]]
    | 141 => [[none, some (.i .i64)], [none, some (.i .i64)]]
    | 142 => [[some (.s 3)]]
    | 143 => [[none, some (.i .i64)]]
    | 144 => [[none, some (.i .i64)], [none, some (.i .i64)]]
    | 145 => [[], [some (.i .i64)], [], [some (.i .i64)]]
    | 146 => [[some (.i .i64)]]
    | 148 => [[some (.i .i64)]]
    | 149 => [[some (.i .i64)]]
    | 150 => [[some (.i .i64)], [some (.i .i64)]]
    | 151 => [[some (.i .i64)], [some (.i .i64)]]
    | 152 => [[some (.i .i64)], [some (.i .i64)]]
    | 153 => [[some (.s 3)]]
    | 154 => [[some (.i .i64)], [some (.i .i64)]]
    | 155 => [[some (.i .i64)]]
    | _ => []
  nils := fun f => match f with
    | 57 => nil57
    | 73 => nil73
    | 74 => nil74
    | 83 => nil83
    | 90 => nil90
    | 91 => nil91
    | 100 => nil100
    | 114 => nil114
    | 118 => nil118
    | 144 => nil144
    | 145 => nil145
    | 150 => nil150
    | 152 => nil152
    | _ => fun _ => none
  gc := fun f => gcL.contains f
  ali := fun f => aliL.contains f
  glob := fun _ => none
@[simp] theorem k_cf : kn.cf = cf := rfl
@[simp] theorem c_emt (t : TypeId) : cf.emt t = (false) := rfl
@[simp] theorem c_papp (a : List Operand) : cf.papp a.toArray = false := rfl
/-! 5: laws.FnExactMatRank -/
@[simp] theorem c_keep5 (r : Nat) : cf.keep 5 r = tab5.getD r [] := rfl
@[simp] theorem c_pure5 : cf.pure 5 = true := rfl
@[simp] theorem c_pack5 : cf.pack 5 = .whole := rfl
@[simp] theorem c_wary5 (r : Nat) : cf.wary 5 r = false := rfl
@[simp] theorem c_clone5 : cf.clone 5 = none := rfl
@[simp] theorem k_out5 : kn.out 5 = .frz [] := rfl
@[simp] theorem k_args5 : kn.args 5 = [[none, some (.s 3)]] := rfl
@[simp] theorem k_nils5 : kn.nils 5 = fun _ => none := rfl
@[simp] theorem k_gc5 : kn.gc 5 = false := rfl
@[simp] theorem k_ali5 : kn.ali 5 = false := rfl
/-! 16: laws.szDy -/
@[simp] theorem c_keep16 (r : Nat) : cf.keep 16 r = tab16.getD r [] := rfl
@[simp] theorem c_pure16 : cf.pure 16 = true := rfl
@[simp] theorem c_pack16 : cf.pack 16 = .whole := rfl
@[simp] theorem c_wary16 (r : Nat) : cf.wary 16 r = false := rfl
@[simp] theorem c_clone16 : cf.clone 16 = none := rfl
@[simp] theorem k_out16 : kn.out 16 = .frz [] := rfl
@[simp] theorem k_args16 : kn.args 16 = [[none, some (.i .i64)]] := rfl
@[simp] theorem k_nils16 : kn.nils 16 = fun _ => none := rfl
@[simp] theorem k_gc16 : kn.gc 16 = true := rfl
@[simp] theorem k_ali16 : kn.ali 16 = false := rfl
/-! 18: laws.toDy -/
@[simp] theorem c_keep18 (r : Nat) : cf.keep 18 r = tab18.getD r [] := rfl
@[simp] theorem c_pure18 : cf.pure 18 = true := rfl
@[simp] theorem c_pack18 : cf.pack 18 = .whole := rfl
@[simp] theorem c_wary18 (r : Nat) : cf.wary 18 r = false := rfl
@[simp] theorem c_clone18 : cf.clone 18 = none := rfl
@[simp] theorem k_out18 : kn.out 18 = .frz [[none, some (.i .i64)]] := rfl
@[simp] theorem k_args18 : kn.args 18 = [[none, some (.i .i64)]] := rfl
@[simp] theorem k_nils18 : kn.nils 18 = fun _ => none := rfl
@[simp] theorem k_gc18 : kn.gc 18 = true := rfl
@[simp] theorem k_ali18 : kn.ali 18 = false := rfl
/-! 21: laws.eqDy -/
@[simp] theorem c_keep21 (r : Nat) : cf.keep 21 r = tab21.getD r [] := rfl
@[simp] theorem c_pure21 : cf.pure 21 = true := rfl
@[simp] theorem c_pack21 : cf.pack 21 = .whole := rfl
@[simp] theorem c_wary21 (r : Nat) : cf.wary 21 r = false := rfl
@[simp] theorem c_clone21 : cf.clone 21 = none := rfl
@[simp] theorem k_out21 : kn.out 21 = .frz [] := rfl
@[simp] theorem k_args21 : kn.args 21 = [[none, some (.i .i64)], [none, some (.i .i64)]] := rfl
@[simp] theorem k_nils21 : kn.nils 21 = fun _ => none := rfl
@[simp] theorem k_gc21 : kn.gc 21 = true := rfl
@[simp] theorem k_ali21 : kn.ali 21 = false := rfl
/-! 25: laws.szMat -/
@[simp] theorem c_keep25 (r : Nat) : cf.keep 25 r = tab25.getD r [] := rfl
@[simp] theorem c_pure25 : cf.pure 25 = true := rfl
@[simp] theorem c_pack25 : cf.pack 25 = .whole := rfl
@[simp] theorem c_wary25 (r : Nat) : cf.wary 25 r = false := rfl
@[simp] theorem c_clone25 : cf.clone 25 = none := rfl
@[simp] theorem k_out25 : kn.out 25 = .frz [] := rfl
@[simp] theorem k_args25 : kn.args 25 = [[none, some (.s 3)]] := rfl
@[simp] theorem k_nils25 : kn.nils 25 = fun _ => none := rfl
@[simp] theorem k_gc25 : kn.gc 25 = true := rfl
@[simp] theorem k_ali25 : kn.ali 25 = false := rfl
/-! 26: spec.MatRank -/
@[simp] theorem c_keep26 (r : Nat) : cf.keep 26 r = tab26.getD r [] := rfl
@[simp] theorem c_pure26 : cf.pure 26 = true := rfl
@[simp] theorem c_pack26 : cf.pack 26 = .whole := rfl
@[simp] theorem c_wary26 (r : Nat) : cf.wary 26 r = false := rfl
@[simp] theorem c_clone26 : cf.clone 26 = none := rfl
@[simp] theorem k_out26 : kn.out 26 = .frz [] := rfl
@[simp] theorem k_args26 : kn.args 26 = [[none, some (.s 3)]] := rfl
@[simp] theorem k_nils26 : kn.nils 26 = fun _ => none := rfl
@[simp] theorem k_gc26 : kn.gc 26 = true := rfl
@[simp] theorem k_ali26 : kn.ali 26 = false := rfl
/-! 27: laws.toMat -/
@[simp] theorem c_keep27 (r : Nat) : cf.keep 27 r = tab27.getD r [] := rfl
@[simp] theorem c_pure27 : cf.pure 27 = true := rfl
@[simp] theorem c_pack27 : cf.pack 27 = .whole := rfl
@[simp] theorem c_wary27 (r : Nat) : cf.wary 27 r = false := rfl
@[simp] theorem c_clone27 : cf.clone 27 = none := rfl
@[simp] theorem k_out27 : kn.out 27 = .frz [[none, some (.s 3)]] := rfl
@[simp] theorem k_args27 : kn.args 27 = [[none, some (.s 3)]] := rfl
@[simp] theorem k_nils27 : kn.nils 27 = fun _ => none := rfl
@[simp] theorem k_gc27 : kn.gc 27 = false := rfl
@[simp] theorem k_ali27 : kn.ali 27 = false := rfl
/-! 28: impl.MatRank -/
@[simp] theorem c_keep28 (r : Nat) : cf.keep 28 r = tab28.getD r [] := rfl
@[simp] theorem c_pure28 : cf.pure 28 = true := rfl
@[simp] theorem c_pack28 : cf.pack 28 = .whole := rfl
@[simp] theorem c_wary28 (r : Nat) : cf.wary 28 r = false := rfl
@[simp] theorem c_clone28 : cf.clone 28 = none := rfl
@[simp] theorem k_out28 : kn.out 28 = .frz [] := rfl
@[simp] theorem k_args28 : kn.args 28 = [[none, some (.s 3)]] := rfl
@[simp] theorem k_nils28 : kn.nils 28 = fun _ => none := rfl
@[simp] theorem k_gc28 : kn.gc 28 = true := rfl
@[simp] theorem k_ali28 : kn.ali 28 = false := rfl
/-! 29: laws.eqMat -/
@[simp] theorem c_keep29 (r : Nat) : cf.keep 29 r = tab29.getD r [] := rfl
@[simp] theorem c_pure29 : cf.pure 29 = true := rfl
@[simp] theorem c_pack29 : cf.pack 29 = .whole := rfl
@[simp] theorem c_wary29 (r : Nat) : cf.wary 29 r = false := rfl
@[simp] theorem c_clone29 : cf.clone 29 = none := rfl
@[simp] theorem k_out29 : kn.out 29 = .frz [] := rfl
@[simp] theorem k_args29 : kn.args 29 = [[none, some (.s 3)], [none, some (.s 3)]] := rfl
@[simp] theorem k_nils29 : kn.nils 29 = fun _ => none := rfl
@[simp] theorem k_gc29 : kn.gc 29 = true := rfl
@[simp] theorem k_ali29 : kn.ali 29 = false := rfl
/-! 43: impl.within -/
@[simp] theorem c_keep43 (r : Nat) : cf.keep 43 r = tab43.getD r [] := rfl
@[simp] theorem c_pure43 : cf.pure 43 = true := rfl
@[simp] theorem c_pack43 : cf.pack 43 = .whole := rfl
@[simp] theorem c_wary43 (r : Nat) : cf.wary 43 r = false := rfl
@[simp] theorem c_clone43 : cf.clone 43 = none := rfl
@[simp] theorem k_out43 : kn.out 43 = .frz [] := rfl
@[simp] theorem k_args43 : kn.args 43 = [] := rfl
@[simp] theorem k_nils43 : kn.nils 43 = fun _ => none := rfl
@[simp] theorem k_gc43 : kn.gc 43 = true := rfl
@[simp] theorem k_ali43 : kn.ali 43 = false := rfl
/-! 46: laws.szWhole -/
@[simp] theorem c_keep46 (r : Nat) : cf.keep 46 r = tab46.getD r [] := rfl
@[simp] theorem c_pure46 : cf.pure 46 = true := rfl
@[simp] theorem c_pack46 : cf.pack 46 = .whole := rfl
@[simp] theorem c_wary46 (r : Nat) : cf.wary 46 r = false := rfl
@[simp] theorem c_clone46 : cf.clone 46 = none := rfl
@[simp] theorem k_out46 : kn.out 46 = .frz [] := rfl
@[simp] theorem k_args46 : kn.args 46 = [[none, some (.i .i64)]] := rfl
@[simp] theorem k_nils46 : kn.nils 46 = fun _ => none := rfl
@[simp] theorem k_gc46 : kn.gc 46 = true := rfl
@[simp] theorem k_ali46 : kn.ali 46 = false := rfl
/-! 47: spec.DyOk -/
@[simp] theorem c_keep47 (r : Nat) : cf.keep 47 r = tab47.getD r [] := rfl
@[simp] theorem c_pure47 : cf.pure 47 = true := rfl
@[simp] theorem c_pack47 : cf.pack 47 = .whole := rfl
@[simp] theorem c_wary47 (r : Nat) : cf.wary 47 r = false := rfl
@[simp] theorem c_clone47 : cf.clone 47 = none := rfl
@[simp] theorem k_out47 : kn.out 47 = .frz [] := rfl
@[simp] theorem k_args47 : kn.args 47 = [[none, some (.i .i64)]] := rfl
@[simp] theorem k_nils47 : kn.nils 47 = fun _ => none := rfl
@[simp] theorem k_gc47 : kn.gc 47 = true := rfl
@[simp] theorem k_ali47 : kn.ali 47 = false := rfl
/-! 49: laws.toWhole -/
@[simp] theorem c_keep49 (r : Nat) : cf.keep 49 r = tab49.getD r [] := rfl
@[simp] theorem c_pure49 : cf.pure 49 = true := rfl
@[simp] theorem c_pack49 : cf.pack 49 = .whole := rfl
@[simp] theorem c_wary49 (r : Nat) : cf.wary 49 r = false := rfl
@[simp] theorem c_clone49 : cf.clone 49 = none := rfl
@[simp] theorem k_out49 : kn.out 49 = .frz [[none, some (.i .i64)]] := rfl
@[simp] theorem k_args49 : kn.args 49 = [[none, some (.i .i64)]] := rfl
@[simp] theorem k_nils49 : kn.nils 49 = fun _ => none := rfl
@[simp] theorem k_gc49 : kn.gc 49 = true := rfl
@[simp] theorem k_ali49 : kn.ali 49 = false := rfl
/-! 50: impl.DyOk -/
@[simp] theorem c_keep50 (r : Nat) : cf.keep 50 r = tab50.getD r [] := rfl
@[simp] theorem c_pure50 : cf.pure 50 = true := rfl
@[simp] theorem c_pack50 : cf.pack 50 = .whole := rfl
@[simp] theorem c_wary50 (r : Nat) : cf.wary 50 r = false := rfl
@[simp] theorem c_clone50 : cf.clone 50 = none := rfl
@[simp] theorem k_out50 : kn.out 50 = .frz [] := rfl
@[simp] theorem k_args50 : kn.args 50 = [[none, some (.i .i64)]] := rfl
@[simp] theorem k_nils50 : kn.nils 50 = fun _ => none := rfl
@[simp] theorem k_gc50 : kn.gc 50 = true := rfl
@[simp] theorem k_ali50 : kn.ali 50 = false := rfl
/-! 52: laws.eqWhole -/
@[simp] theorem c_keep52 (r : Nat) : cf.keep 52 r = tab52.getD r [] := rfl
@[simp] theorem c_pure52 : cf.pure 52 = true := rfl
@[simp] theorem c_pack52 : cf.pack 52 = .whole := rfl
@[simp] theorem c_wary52 (r : Nat) : cf.wary 52 r = false := rfl
@[simp] theorem c_clone52 : cf.clone 52 = none := rfl
@[simp] theorem k_out52 : kn.out 52 = .frz [] := rfl
@[simp] theorem k_args52 : kn.args 52 = [[none, some (.i .i64)], [none, some (.i .i64)]] := rfl
@[simp] theorem k_nils52 : kn.nils 52 = fun _ => none := rfl
@[simp] theorem k_gc52 : kn.gc 52 = true := rfl
@[simp] theorem k_ali52 : kn.ali 52 = false := rfl
/-! 54: laws.szDyS -/
@[simp] theorem c_keep54 (r : Nat) : cf.keep 54 r = tab54.getD r [] := rfl
@[simp] theorem c_pure54 : cf.pure 54 = true := rfl
@[simp] theorem c_pack54 : cf.pack 54 = .whole := rfl
@[simp] theorem c_wary54 (r : Nat) : cf.wary 54 r = false := rfl
@[simp] theorem c_clone54 : cf.clone 54 = none := rfl
@[simp] theorem k_out54 : kn.out 54 = .frz [] := rfl
@[simp] theorem k_args54 : kn.args 54 = [[some (.s 3)]] := rfl
@[simp] theorem k_nils54 : kn.nils 54 = fun _ => none := rfl
@[simp] theorem k_gc54 : kn.gc 54 = true := rfl
@[simp] theorem k_ali54 : kn.ali 54 = false := rfl
/-! 55: spec.MatOk -/
@[simp] theorem c_keep55 (r : Nat) : cf.keep 55 r = tab55.getD r [] := rfl
@[simp] theorem c_pure55 : cf.pure 55 = true := rfl
@[simp] theorem c_pack55 : cf.pack 55 = .whole := rfl
@[simp] theorem c_wary55 (r : Nat) : cf.wary 55 r = false := rfl
@[simp] theorem c_clone55 : cf.clone 55 = none := rfl
@[simp] theorem k_out55 : kn.out 55 = .frz [] := rfl
@[simp] theorem k_args55 : kn.args 55 = [[none, some (.s 3)]] := rfl
@[simp] theorem k_nils55 : kn.nils 55 = fun _ => none := rfl
@[simp] theorem k_gc55 : kn.gc 55 = true := rfl
@[simp] theorem k_ali55 : kn.ali 55 = false := rfl
/-! 56: spec.l9rank -/
@[simp] theorem c_keep56 (r : Nat) : cf.keep 56 r = tab56.getD r [] := rfl
@[simp] theorem c_pure56 : cf.pure 56 = true := rfl
@[simp] theorem c_pack56 : cf.pack 56 = .whole := rfl
@[simp] theorem c_wary56 (r : Nat) : cf.wary 56 r = false := rfl
@[simp] theorem c_clone56 : cf.clone 56 = none := rfl
@[simp] theorem k_out56 : kn.out 56 = .frz [] := rfl
@[simp] theorem k_args56 : kn.args 56 = [[none, some (.s 3)]] := rfl
@[simp] theorem k_nils56 : kn.nils 56 = fun _ => none := rfl
@[simp] theorem k_gc56 : kn.gc 56 = true := rfl
@[simp] theorem k_ali56 : kn.ali 56 = false := rfl
/-! 57: laws.toDyS -/
@[simp] theorem c_keep57 (r : Nat) : cf.keep 57 r = tab57.getD r [] := rfl
@[simp] theorem c_pure57 : cf.pure 57 = true := rfl
@[simp] theorem c_pack57 : cf.pack 57 = .whole := rfl
@[simp] theorem c_wary57 (r : Nat) : cf.wary 57 r = false := rfl
@[simp] theorem c_clone57 : cf.clone 57 = none := rfl
@[simp] theorem k_out57 : kn.out 57 = .frz [[some (.s 3)]] := rfl
@[simp] theorem k_args57 : kn.args 57 = [[some (.s 3)]] := rfl
@[simp] theorem k_nils57 : kn.nils 57 = nil57 := rfl
@[simp] theorem k_gc57 : kn.gc 57 = false := rfl
@[simp] theorem k_ali57 : kn.ali 57 = false := rfl
/-! 58: impl.MatOk -/
@[simp] theorem c_keep58 (r : Nat) : cf.keep 58 r = tab58.getD r [] := rfl
@[simp] theorem c_pure58 : cf.pure 58 = true := rfl
@[simp] theorem c_pack58 : cf.pack 58 = .whole := rfl
@[simp] theorem c_wary58 (r : Nat) : cf.wary 58 r = false := rfl
@[simp] theorem c_clone58 : cf.clone 58 = none := rfl
@[simp] theorem k_out58 : kn.out 58 = .frz [] := rfl
@[simp] theorem k_args58 : kn.args 58 = [[none, some (.s 3)]] := rfl
@[simp] theorem k_nils58 : kn.nils 58 = fun _ => none := rfl
@[simp] theorem k_gc58 : kn.gc 58 = true := rfl
@[simp] theorem k_ali58 : kn.ali 58 = false := rfl
/-! 59: (impl.Mat).grid -/
@[simp] theorem c_keep59 (r : Nat) : cf.keep 59 r = tab59.getD r [] := rfl
@[simp] theorem c_pure59 : cf.pure 59 = true := rfl
@[simp] theorem c_pack59 : cf.pack 59 = .whole := rfl
@[simp] theorem c_wary59 (r : Nat) : cf.wary 59 r = false := rfl
@[simp] theorem c_clone59 : cf.clone 59 = none := rfl
@[simp] theorem k_out59 : kn.out 59 = .frz [[none, some (.s 3)]] := rfl
@[simp] theorem k_args59 : kn.args 59 = [[none, some (.s 3)]] := rfl
@[simp] theorem k_nils59 : kn.nils 59 = fun _ => none := rfl
@[simp] theorem k_gc59 : kn.gc 59 = true := rfl
@[simp] theorem k_ali59 : kn.ali 59 = false := rfl
/-! 60: (impl.grid).rank -/
@[simp] theorem c_keep60 (r : Nat) : cf.keep 60 r = tab60.getD r [] := rfl
@[simp] theorem c_pure60 : cf.pure 60 = true := rfl
@[simp] theorem c_pack60 : cf.pack 60 = .whole := rfl
@[simp] theorem c_wary60 (r : Nat) : cf.wary 60 r = false := rfl
@[simp] theorem c_clone60 : cf.clone 60 = none := rfl
@[simp] theorem k_out60 : kn.out 60 = .frz [] := rfl
@[simp] theorem k_args60 : kn.args 60 = [[none, some (.s 3)]] := rfl
@[simp] theorem k_nils60 : kn.nils 60 = fun _ => none := rfl
@[simp] theorem k_gc60 : kn.gc 60 = false := rfl
@[simp] theorem k_ali60 : kn.ali 60 = false := rfl
/-! 61: laws.eqDyS -/
@[simp] theorem c_keep61 (r : Nat) : cf.keep 61 r = tab61.getD r [] := rfl
@[simp] theorem c_pure61 : cf.pure 61 = true := rfl
@[simp] theorem c_pack61 : cf.pack 61 = .whole := rfl
@[simp] theorem c_wary61 (r : Nat) : cf.wary 61 r = false := rfl
@[simp] theorem c_clone61 : cf.clone 61 = none := rfl
@[simp] theorem k_out61 : kn.out 61 = .frz [] := rfl
@[simp] theorem k_args61 : kn.args 61 = [[some (.s 3)], [some (.s 3)]] := rfl
@[simp] theorem k_nils61 : kn.nils 61 = fun _ => none := rfl
@[simp] theorem k_gc61 : kn.gc 61 = true := rfl
@[simp] theorem k_ali61 : kn.ali 61 = false := rfl
/-! 67: spec.l3make -/
@[simp] theorem c_keep67 (r : Nat) : cf.keep 67 r = tab67.getD r [] := rfl
@[simp] theorem c_pure67 : cf.pure 67 = true := rfl
@[simp] theorem c_pack67 : cf.pack 67 = .whole := rfl
@[simp] theorem c_wary67 (r : Nat) : cf.wary 67 r = false := rfl
@[simp] theorem c_clone67 : cf.clone 67 = none := rfl
@[simp] theorem k_out67 : kn.out 67 = .frz [[none, some (.i .i64)]] := rfl
@[simp] theorem k_args67 : kn.args 67 = [[], [some (.i .i64)]] := rfl
@[simp] theorem k_nils67 : kn.nils 67 = fun _ => none := rfl
@[simp] theorem k_gc67 : kn.gc 67 = true := rfl
@[simp] theorem k_ali67 : kn.ali 67 = false := rfl
/-! 73: impl.plus -/
@[simp] theorem c_keep73 (r : Nat) : cf.keep 73 r = tab73.getD r [] := rfl
@[simp] theorem c_pure73 : cf.pure 73 = true := rfl
@[simp] theorem c_pack73 : cf.pack 73 = .whole := rfl
@[simp] theorem c_wary73 (r : Nat) : cf.wary 73 r = false := rfl
@[simp] theorem c_clone73 : cf.clone 73 = none := rfl
@[simp] theorem k_out73 : kn.out 73 = .own [[some (.i .i64)]] := rfl
@[simp] theorem k_args73 : kn.args 73 = [[some (.i .i64)], [some (.i .i64)]] := rfl
@[simp] theorem k_nils73 : kn.nils 73 = nil73 := rfl
@[simp] theorem k_gc73 : kn.gc 73 = true := rfl
@[simp] theorem k_ali73 : kn.ali 73 = false := rfl
/-! 74: impl.times -/
@[simp] theorem c_keep74 (r : Nat) : cf.keep 74 r = tab74.getD r [] := rfl
@[simp] theorem c_pure74 : cf.pure 74 = true := rfl
@[simp] theorem c_pack74 : cf.pack 74 = .whole := rfl
@[simp] theorem c_wary74 (r : Nat) : cf.wary 74 r = false := rfl
@[simp] theorem c_clone74 : cf.clone 74 = none := rfl
@[simp] theorem k_out74 : kn.out 74 = .own [[some (.i .i64)]] := rfl
@[simp] theorem k_args74 : kn.args 74 = [[some (.i .i64)], [some (.i .i64)]] := rfl
@[simp] theorem k_nils74 : kn.nils 74 = nil74 := rfl
@[simp] theorem k_gc74 : kn.gc 74 = true := rfl
@[simp] theorem k_ali74 : kn.ali 74 = false := rfl
/-! 78: laws.szNat -/
@[simp] theorem c_keep78 (r : Nat) : cf.keep 78 r = tab78.getD r [] := rfl
@[simp] theorem c_pure78 : cf.pure 78 = true := rfl
@[simp] theorem c_pack78 : cf.pack 78 = .whole := rfl
@[simp] theorem c_wary78 (r : Nat) : cf.wary 78 r = false := rfl
@[simp] theorem c_clone78 : cf.clone 78 = none := rfl
@[simp] theorem k_out78 : kn.out 78 = .frz [] := rfl
@[simp] theorem k_args78 : kn.args 78 = [[some (.i .i64)]] := rfl
@[simp] theorem k_nils78 : kn.nils 78 = fun _ => none := rfl
@[simp] theorem k_gc78 : kn.gc 78 = true := rfl
@[simp] theorem k_ali78 : kn.ali 78 = false := rfl
/-! 79: spec.WholeOk -/
@[simp] theorem c_keep79 (r : Nat) : cf.keep 79 r = tab79.getD r [] := rfl
@[simp] theorem c_pure79 : cf.pure 79 = true := rfl
@[simp] theorem c_pack79 : cf.pack 79 = .whole := rfl
@[simp] theorem c_wary79 (r : Nat) : cf.wary 79 r = false := rfl
@[simp] theorem c_clone79 : cf.clone 79 = none := rfl
@[simp] theorem k_out79 : kn.out 79 = .frz [] := rfl
@[simp] theorem k_args79 : kn.args 79 = [[none, some (.i .i64)]] := rfl
@[simp] theorem k_nils79 : kn.nils 79 = fun _ => none := rfl
@[simp] theorem k_gc79 : kn.gc 79 = true := rfl
@[simp] theorem k_ali79 : kn.ali 79 = false := rfl
/-! 80: spec.l2bit -/
@[simp] theorem c_keep80 (r : Nat) : cf.keep 80 r = tab80.getD r [] := rfl
@[simp] theorem c_pure80 : cf.pure 80 = true := rfl
@[simp] theorem c_pack80 : cf.pack 80 = .whole := rfl
@[simp] theorem c_wary80 (r : Nat) : cf.wary 80 r = false := rfl
@[simp] theorem c_clone80 : cf.clone 80 = none := rfl
@[simp] theorem k_out80 : kn.out 80 = .frz [] := rfl
@[simp] theorem k_args80 : kn.args 80 = [[some (.i .i64)]] := rfl
@[simp] theorem k_nils80 : kn.nils 80 = fun _ => none := rfl
@[simp] theorem k_gc80 : kn.gc 80 = true := rfl
@[simp] theorem k_ali80 : kn.ali 80 = false := rfl
/-! 81: spec.l2shl -/
@[simp] theorem c_keep81 (r : Nat) : cf.keep 81 r = tab81.getD r [] := rfl
@[simp] theorem c_pure81 : cf.pure 81 = true := rfl
@[simp] theorem c_pack81 : cf.pack 81 = .whole := rfl
@[simp] theorem c_wary81 (r : Nat) : cf.wary 81 r = false := rfl
@[simp] theorem c_clone81 : cf.clone 81 = none := rfl
@[simp] theorem k_out81 : kn.out 81 = .frz [[some (.i .i64)]] := rfl
@[simp] theorem k_args81 : kn.args 81 = [[some (.i .i64)]] := rfl
@[simp] theorem k_nils81 : kn.nils 81 = fun _ => none := rfl
@[simp] theorem k_gc81 : kn.gc 81 = true := rfl
@[simp] theorem k_ali81 : kn.ali 81 = false := rfl
/-! 82: spec.l2mul -/
@[simp] theorem c_keep82 (r : Nat) : cf.keep 82 r = tab82.getD r [] := rfl
@[simp] theorem c_pure82 : cf.pure 82 = true := rfl
@[simp] theorem c_pack82 : cf.pack 82 = .whole := rfl
@[simp] theorem c_wary82 (r : Nat) : cf.wary 82 r = false := rfl
@[simp] theorem c_clone82 : cf.clone 82 = none := rfl
@[simp] theorem k_out82 : kn.out 82 = .frz [[some (.i .i64)]] := rfl
@[simp] theorem k_args82 : kn.args 82 = [[some (.i .i64)], [some (.i .i64)]] := rfl
@[simp] theorem k_nils82 : kn.nils 82 = fun _ => none := rfl
@[simp] theorem k_gc82 : kn.gc 82 = true := rfl
@[simp] theorem k_ali82 : kn.ali 82 = false := rfl
/-! 83: spec.l2of -/
@[simp] theorem c_keep83 (r : Nat) : cf.keep 83 r = tab83.getD r [] := rfl
@[simp] theorem c_pure83 : cf.pure 83 = true := rfl
@[simp] theorem c_pack83 : cf.pack 83 = .whole := rfl
@[simp] theorem c_wary83 (r : Nat) : cf.wary 83 r = false := rfl
@[simp] theorem c_clone83 : cf.clone 83 = none := rfl
@[simp] theorem k_out83 : kn.out 83 = .own [[some (.i .i64)]] := rfl
@[simp] theorem k_args83 : kn.args 83 = [] := rfl
@[simp] theorem k_nils83 : kn.nils 83 = nil83 := rfl
@[simp] theorem k_gc83 : kn.gc 83 = true := rfl
@[simp] theorem k_ali83 : kn.ali 83 = false := rfl
/-! 84: laws.toNat -/
@[simp] theorem c_keep84 (r : Nat) : cf.keep 84 r = tab84.getD r [] := rfl
@[simp] theorem c_pure84 : cf.pure 84 = true := rfl
@[simp] theorem c_pack84 : cf.pack 84 = .whole := rfl
@[simp] theorem c_wary84 (r : Nat) : cf.wary 84 r = false := rfl
@[simp] theorem c_clone84 : cf.clone 84 = none := rfl
@[simp] theorem k_out84 : kn.out 84 = .frz [[some (.i .i64)]] := rfl
@[simp] theorem k_args84 : kn.args 84 = [[some (.i .i64)]] := rfl
@[simp] theorem k_nils84 : kn.nils 84 = fun _ => none := rfl
@[simp] theorem k_gc84 : kn.gc 84 = true := rfl
@[simp] theorem k_ali84 : kn.ali 84 = false := rfl
/-! 85: impl.WholeOk -/
@[simp] theorem c_keep85 (r : Nat) : cf.keep 85 r = tab85.getD r [] := rfl
@[simp] theorem c_pure85 : cf.pure 85 = true := rfl
@[simp] theorem c_pack85 : cf.pack 85 = .whole := rfl
@[simp] theorem c_wary85 (r : Nat) : cf.wary 85 r = false := rfl
@[simp] theorem c_clone85 : cf.clone 85 = none := rfl
@[simp] theorem k_out85 : kn.out 85 = .frz [] := rfl
@[simp] theorem k_args85 : kn.args 85 = [[none, some (.i .i64)]] := rfl
@[simp] theorem k_nils85 : kn.nils 85 = fun _ => none := rfl
@[simp] theorem k_gc85 : kn.gc 85 = true := rfl
@[simp] theorem k_ali85 : kn.ali 85 = false := rfl
/-! 86: impl.bitOf -/
@[simp] theorem c_keep86 (r : Nat) : cf.keep 86 r = tab86.getD r [] := rfl
@[simp] theorem c_pure86 : cf.pure 86 = true := rfl
@[simp] theorem c_pack86 : cf.pack 86 = .whole := rfl
@[simp] theorem c_wary86 (r : Nat) : cf.wary 86 r = false := rfl
@[simp] theorem c_clone86 : cf.clone 86 = none := rfl
@[simp] theorem k_out86 : kn.out 86 = .frz [] := rfl
@[simp] theorem k_args86 : kn.args 86 = [[some (.i .i64)]] := rfl
@[simp] theorem k_nils86 : kn.nils 86 = fun _ => none := rfl
@[simp] theorem k_gc86 : kn.gc 86 = true := rfl
@[simp] theorem k_ali86 : kn.ali 86 = false := rfl
/-! 90: impl.up -/
@[simp] theorem c_keep90 (r : Nat) : cf.keep 90 r = tab90.getD r [] := rfl
@[simp] theorem c_pure90 : cf.pure 90 = true := rfl
@[simp] theorem c_pack90 : cf.pack 90 = .whole := rfl
@[simp] theorem c_wary90 (r : Nat) : cf.wary 90 r = false := rfl
@[simp] theorem c_clone90 : cf.clone 90 = none := rfl
@[simp] theorem k_out90 : kn.out 90 = .own [[some (.i .i64)]] := rfl
@[simp] theorem k_args90 : kn.args 90 = [[some (.i .i64)]] := rfl
@[simp] theorem k_nils90 : kn.nils 90 = nil90 := rfl
@[simp] theorem k_gc90 : kn.gc 90 = true := rfl
@[simp] theorem k_ali90 : kn.ali 90 = false := rfl
/-! 91: impl.minus -/
@[simp] theorem c_keep91 (r : Nat) : cf.keep 91 r = tab91.getD r [] := rfl
@[simp] theorem c_pure91 : cf.pure 91 = true := rfl
@[simp] theorem c_pack91 : cf.pack 91 = .whole := rfl
@[simp] theorem c_wary91 (r : Nat) : cf.wary 91 r = false := rfl
@[simp] theorem c_clone91 : cf.clone 91 = none := rfl
@[simp] theorem k_out91 : kn.out 91 = .own [[some (.i .i64)]] := rfl
@[simp] theorem k_args91 : kn.args 91 = [[some (.i .i64)], [some (.i .i64)]] := rfl
@[simp] theorem k_nils91 : kn.nils 91 = nil91 := rfl
@[simp] theorem k_gc91 : kn.gc 91 = true := rfl
@[simp] theorem k_ali91 : kn.ali 91 = false := rfl
/-! 94: laws.eqNat -/
@[simp] theorem c_keep94 (r : Nat) : cf.keep 94 r = tab94.getD r [] := rfl
@[simp] theorem c_pure94 : cf.pure 94 = true := rfl
@[simp] theorem c_pack94 : cf.pack 94 = .whole := rfl
@[simp] theorem c_wary94 (r : Nat) : cf.wary 94 r = false := rfl
@[simp] theorem c_clone94 : cf.clone 94 = none := rfl
@[simp] theorem k_out94 : kn.out 94 = .frz [] := rfl
@[simp] theorem k_args94 : kn.args 94 = [[some (.i .i64)], [some (.i .i64)]] := rfl
@[simp] theorem k_nils94 : kn.nils 94 = fun _ => none := rfl
@[simp] theorem k_gc94 : kn.gc 94 = true := rfl
@[simp] theorem k_ali94 : kn.ali 94 = false := rfl
/-! 96: spec.l9rows -/
@[simp] theorem c_keep96 (r : Nat) : cf.keep 96 r = tab96.getD r [] := rfl
@[simp] theorem c_pure96 : cf.pure 96 = true := rfl
@[simp] theorem c_pack96 : cf.pack 96 = .whole := rfl
@[simp] theorem c_wary96 (r : Nat) : cf.wary 96 r = false := rfl
@[simp] theorem c_clone96 : cf.clone 96 = none := rfl
@[simp] theorem k_out96 : kn.out 96 = .frz [[none, some (.s 3)]] := rfl
@[simp] theorem k_args96 : kn.args 96 = [[none, some (.s 3)]] := rfl
@[simp] theorem k_nils96 : kn.nils 96 = fun _ => none := rfl
@[simp] theorem k_gc96 : kn.gc 96 = true := rfl
@[simp] theorem k_ali96 : kn.ali 96 = false := rfl
/-! 97: spec.l9det -/
@[simp] theorem c_keep97 (r : Nat) : cf.keep 97 r = tab97.getD r [] := rfl
@[simp] theorem c_pure97 : cf.pure 97 = true := rfl
@[simp] theorem c_pack97 : cf.pack 97 = .whole := rfl
@[simp] theorem c_wary97 (r : Nat) : cf.wary 97 r = false := rfl
@[simp] theorem c_clone97 : cf.clone 97 = none := rfl
@[simp] theorem k_out97 : kn.out 97 = .frz [[none, some (.i .i64)]] := rfl
@[simp] theorem k_args97 : kn.args 97 = [[none, some (.s 3)]] := rfl
@[simp] theorem k_nils97 : kn.nils 97 = fun _ => none := rfl
@[simp] theorem k_gc97 : kn.gc 97 = true := rfl
@[simp] theorem k_ali97 : kn.ali 97 = false := rfl
/-! 98: impl.areDys -/
@[simp] theorem c_keep98 (r : Nat) : cf.keep 98 r = tab98.getD r [] := rfl
@[simp] theorem c_pure98 : cf.pure 98 = true := rfl
@[simp] theorem c_pack98 : cf.pack 98 = .whole := rfl
@[simp] theorem c_wary98 (r : Nat) : cf.wary 98 r = false := rfl
@[simp] theorem c_clone98 : cf.clone 98 = none := rfl
@[simp] theorem k_out98 : kn.out 98 = .frz [] := rfl
@[simp] theorem k_args98 : kn.args 98 = [[some (.s 3)]] := rfl
@[simp] theorem k_nils98 : kn.nils 98 = fun _ => none := rfl
@[simp] theorem k_gc98 : kn.gc 98 = true := rfl
@[simp] theorem k_ali98 : kn.ali 98 = false := rfl
/-! 99: (impl.Dy).exact -/
@[simp] theorem c_keep99 (r : Nat) : cf.keep 99 r = tab99.getD r [] := rfl
@[simp] theorem c_pure99 : cf.pure 99 = true := rfl
@[simp] theorem c_pack99 : cf.pack 99 = .whole := rfl
@[simp] theorem c_wary99 (r : Nat) : cf.wary 99 r = false := rfl
@[simp] theorem c_clone99 : cf.clone 99 = none := rfl
@[simp] theorem k_out99 : kn.out 99 = .frz [[none, some (.i .i64)]] := rfl
@[simp] theorem k_args99 : kn.args 99 = [[none, some (.i .i64)]] := rfl
@[simp] theorem k_nils99 : kn.nils 99 = fun _ => none := rfl
@[simp] theorem k_gc99 : kn.gc 99 = true := rfl
@[simp] theorem k_ali99 : kn.ali 99 = false := rfl
/-! 100: slices.Clone[[]impl.exact,impl.exact] -/
@[simp] theorem c_keep100 (r : Nat) : cf.keep 100 r = tab100.getD r [] := rfl
@[simp] theorem c_pure100 : cf.pure 100 = true := rfl
@[simp] theorem c_pack100 : cf.pack 100 = .whole := rfl
@[simp] theorem c_wary100 (r : Nat) : cf.wary 100 r = false := rfl
@[simp] theorem c_clone100 : cf.clone 100 = none := rfl
@[simp] theorem k_out100 : kn.out 100 = .own [[some (.s 3)]] := rfl
@[simp] theorem k_args100 : kn.args 100 = [[some (.s 3)]] := rfl
@[simp] theorem k_nils100 : kn.nils 100 = nil100 := rfl
@[simp] theorem k_gc100 : kn.gc 100 = true := rfl
@[simp] theorem k_ali100 : kn.ali 100 = false := rfl
/-! 101: slices.IndexFunc[[][]impl.exact,[]impl.exact] -/
@[simp] theorem c_keep101 (r : Nat) : cf.keep 101 r = tab101.getD r [] := rfl
@[simp] theorem c_pure101 : cf.pure 101 = true := rfl
@[simp] theorem c_pack101 : cf.pack 101 = .whole := rfl
@[simp] theorem c_wary101 (r : Nat) : cf.wary 101 r = false := rfl
@[simp] theorem c_clone101 : cf.clone 101 = none := rfl
@[simp] theorem k_out101 : kn.out 101 = .frz [] := rfl
@[simp] theorem k_args101 : kn.args 101 = [[some (.s 1)]] := rfl
@[simp] theorem k_nils101 : kn.nils 101 = fun _ => none := rfl
@[simp] theorem k_gc101 : kn.gc 101 = true := rfl
@[simp] theorem k_ali101 : kn.ali 101 = false := rfl
/-! 102: (impl.grid).rank$1 -/
@[simp] theorem c_keep102 (r : Nat) : cf.keep 102 r = tab102.getD r [] := rfl
@[simp] theorem c_pure102 : cf.pure 102 = true := rfl
@[simp] theorem c_pack102 : cf.pack 102 = .whole := rfl
@[simp] theorem c_wary102 (r : Nat) : cf.wary 102 r = false := rfl
@[simp] theorem c_clone102 : cf.clone 102 = none := rfl
@[simp] theorem k_out102 : kn.out 102 = .frz [] := rfl
@[simp] theorem k_args102 : kn.args 102 = [[some (.s 3)]] := rfl
@[simp] theorem k_nils102 : kn.nils 102 = fun _ => none := rfl
@[simp] theorem k_gc102 : kn.gc 102 = true := rfl
@[simp] theorem k_ali102 : kn.ali 102 = false := rfl
/-! 103: (impl.exact).isZero -/
@[simp] theorem c_keep103 (r : Nat) : cf.keep 103 r = tab103.getD r [] := rfl
@[simp] theorem c_pure103 : cf.pure 103 = true := rfl
@[simp] theorem c_pack103 : cf.pack 103 = .whole := rfl
@[simp] theorem c_wary103 (r : Nat) : cf.wary 103 r = false := rfl
@[simp] theorem c_clone103 : cf.clone 103 = none := rfl
@[simp] theorem k_out103 : kn.out 103 = .frz [] := rfl
@[simp] theorem k_args103 : kn.args 103 = [[none, some (.i .i64)]] := rfl
@[simp] theorem k_nils103 : kn.nils 103 = fun _ => none := rfl
@[simp] theorem k_gc103 : kn.gc 103 = true := rfl
@[simp] theorem k_ali103 : kn.ali 103 = false := rfl
/-! 104: (impl.exact).times -/
@[simp] theorem c_keep104 (r : Nat) : cf.keep 104 r = tab104.getD r [] := rfl
@[simp] theorem c_pure104 : cf.pure 104 = true := rfl
@[simp] theorem c_pack104 : cf.pack 104 = .whole := rfl
@[simp] theorem c_wary104 (r : Nat) : cf.wary 104 r = false := rfl
@[simp] theorem c_clone104 : cf.clone 104 = none := rfl
@[simp] theorem k_out104 : kn.out 104 = .frz [[none, some (.i .i64)]] := rfl
@[simp] theorem k_args104 : kn.args 104 = [[none, some (.i .i64)], [none, some (.i .i64)]] := rfl
@[simp] theorem k_nils104 : kn.nils 104 = fun _ => none := rfl
@[simp] theorem k_gc104 : kn.gc 104 = true := rfl
@[simp] theorem k_ali104 : kn.ali 104 = false := rfl
/-! 105: (impl.exact).minus -/
@[simp] theorem c_keep105 (r : Nat) : cf.keep 105 r = tab105.getD r [] := rfl
@[simp] theorem c_pure105 : cf.pure 105 = true := rfl
@[simp] theorem c_pack105 : cf.pack 105 = .whole := rfl
@[simp] theorem c_wary105 (r : Nat) : cf.wary 105 r = false := rfl
@[simp] theorem c_clone105 : cf.clone 105 = none := rfl
@[simp] theorem k_out105 : kn.out 105 = .frz [[none, some (.i .i64)]] := rfl
@[simp] theorem k_args105 : kn.args 105 = [[none, some (.i .i64)], [none, some (.i .i64)]] := rfl
@[simp] theorem k_nils105 : kn.nils 105 = fun _ => none := rfl
@[simp] theorem k_gc105 : kn.gc 105 = true := rfl
@[simp] theorem k_ali105 : kn.ali 105 = false := rfl
/-! 108: spec.l2small -/
@[simp] theorem c_keep108 (r : Nat) : cf.keep 108 r = tab108.getD r [] := rfl
@[simp] theorem c_pure108 : cf.pure 108 = true := rfl
@[simp] theorem c_pack108 : cf.pack 108 = .whole := rfl
@[simp] theorem c_wary108 (r : Nat) : cf.wary 108 r = false := rfl
@[simp] theorem c_clone108 : cf.clone 108 = none := rfl
@[simp] theorem k_out108 : kn.out 108 = .frz [[some (.i .i64)]] := rfl
@[simp] theorem k_args108 : kn.args 108 = [[some (.i .i64)]] := rfl
@[simp] theorem k_nils108 : kn.nils 108 = fun _ => none := rfl
@[simp] theorem k_gc108 : kn.gc 108 = true := rfl
@[simp] theorem k_ali108 : kn.ali 108 = false := rfl
/-! 109: spec.l2norm -/
@[simp] theorem c_keep109 (r : Nat) : cf.keep 109 r = tab109.getD r [] := rfl
@[simp] theorem c_pure109 : cf.pure 109 = true := rfl
@[simp] theorem c_pack109 : cf.pack 109 = .whole := rfl
@[simp] theorem c_wary109 (r : Nat) : cf.wary 109 r = false := rfl
@[simp] theorem c_clone109 : cf.clone 109 = none := rfl
@[simp] theorem k_out109 : kn.out 109 = .own [[some (.i .i64)]] := rfl
@[simp] theorem k_args109 : kn.args 109 = [[some (.i .i64)]] := rfl
@[simp] theorem k_nils109 : kn.nils 109 = fun _ => none := rfl
@[simp] theorem k_gc109 : kn.gc 109 = true := rfl
@[simp] theorem k_ali109 : kn.ali 109 = false := rfl
/-! 114: impl.trim -/
@[simp] theorem c_keep114 (r : Nat) : cf.keep 114 r = tab114.getD r [] := rfl
@[simp] theorem c_pure114 : cf.pure 114 = true := rfl
@[simp] theorem c_pack114 : cf.pack 114 = .whole := rfl
@[simp] theorem c_wary114 (r : Nat) : cf.wary 114 r = false := rfl
@[simp] theorem c_clone114 : cf.clone 114 = none := rfl
@[simp] theorem k_out114 : kn.out 114 = .inl := rfl
@[simp] theorem k_args114 : kn.args 114 = [[some (.i .i64)]] := rfl
@[simp] theorem k_nils114 : kn.nils 114 = nil114 := rfl
@[simp] theorem k_gc114 : kn.gc 114 = false := rfl
@[simp] theorem k_ali114 : kn.ali 114 = true := rfl
/-! 116: laws.szIntS -/
@[simp] theorem c_keep116 (r : Nat) : cf.keep 116 r = tab116.getD r [] := rfl
@[simp] theorem c_pure116 : cf.pure 116 = true := rfl
@[simp] theorem c_pack116 : cf.pack 116 = .whole := rfl
@[simp] theorem c_wary116 (r : Nat) : cf.wary 116 r = false := rfl
@[simp] theorem c_clone116 : cf.clone 116 = none := rfl
@[simp] theorem k_out116 : kn.out 116 = .frz [] := rfl
@[simp] theorem k_args116 : kn.args 116 = [[some (.i .i64)]] := rfl
@[simp] theorem k_nils116 : kn.nils 116 = fun _ => none := rfl
@[simp] theorem k_gc116 : kn.gc 116 = true := rfl
@[simp] theorem k_ali116 : kn.ali 116 = false := rfl
/-! 117: spec.NatOk -/
@[simp] theorem c_keep117 (r : Nat) : cf.keep 117 r = tab117.getD r [] := rfl
@[simp] theorem c_pure117 : cf.pure 117 = true := rfl
@[simp] theorem c_pack117 : cf.pack 117 = .whole := rfl
@[simp] theorem c_wary117 (r : Nat) : cf.wary 117 r = false := rfl
@[simp] theorem c_clone117 : cf.clone 117 = none := rfl
@[simp] theorem k_out117 : kn.out 117 = .frz [] := rfl
@[simp] theorem k_args117 : kn.args 117 = [[some (.i .i64)]] := rfl
@[simp] theorem k_nils117 : kn.nils 117 = fun _ => none := rfl
@[simp] theorem k_gc117 : kn.gc 117 = true := rfl
@[simp] theorem k_ali117 : kn.ali 117 = false := rfl
/-! 118: laws.toIntS -/
@[simp] theorem c_keep118 (r : Nat) : cf.keep 118 r = tab118.getD r [] := rfl
@[simp] theorem c_pure118 : cf.pure 118 = true := rfl
@[simp] theorem c_pack118 : cf.pack 118 = .whole := rfl
@[simp] theorem c_wary118 (r : Nat) : cf.wary 118 r = false := rfl
@[simp] theorem c_clone118 : cf.clone 118 = none := rfl
@[simp] theorem k_out118 : kn.out 118 = .frz [[some (.i .i64)]] := rfl
@[simp] theorem k_args118 : kn.args 118 = [[some (.i .i64)]] := rfl
@[simp] theorem k_nils118 : kn.nils 118 = nil118 := rfl
@[simp] theorem k_gc118 : kn.gc 118 = true := rfl
@[simp] theorem k_ali118 : kn.ali 118 = false := rfl
/-! 119: impl.NatOk -/
@[simp] theorem c_keep119 (r : Nat) : cf.keep 119 r = tab119.getD r [] := rfl
@[simp] theorem c_pure119 : cf.pure 119 = true := rfl
@[simp] theorem c_pack119 : cf.pack 119 = .whole := rfl
@[simp] theorem c_wary119 (r : Nat) : cf.wary 119 r = false := rfl
@[simp] theorem c_clone119 : cf.clone 119 = none := rfl
@[simp] theorem k_out119 : kn.out 119 = .frz [] := rfl
@[simp] theorem k_args119 : kn.args 119 = [[some (.i .i64)]] := rfl
@[simp] theorem k_nils119 : kn.nils 119 = fun _ => none := rfl
@[simp] theorem k_gc119 : kn.gc 119 = true := rfl
@[simp] theorem k_ali119 : kn.ali 119 = false := rfl
/-! 123: laws.eqIntS -/
@[simp] theorem c_keep123 (r : Nat) : cf.keep 123 r = tab123.getD r [] := rfl
@[simp] theorem c_pure123 : cf.pure 123 = true := rfl
@[simp] theorem c_pack123 : cf.pack 123 = .whole := rfl
@[simp] theorem c_wary123 (r : Nat) : cf.wary 123 r = false := rfl
@[simp] theorem c_clone123 : cf.clone 123 = none := rfl
@[simp] theorem k_out123 : kn.out 123 = .frz [] := rfl
@[simp] theorem k_args123 : kn.args 123 = [[some (.i .i64)], [some (.i .i64)]] := rfl
@[simp] theorem k_nils123 : kn.nils 123 = fun _ => none := rfl
@[simp] theorem k_gc123 : kn.gc 123 = true := rfl
@[simp] theorem k_ali123 : kn.ali 123 = false := rfl
/-! 125: spec.l4mul -/
@[simp] theorem c_keep125 (r : Nat) : cf.keep 125 r = tab125.getD r [] := rfl
@[simp] theorem c_pure125 : cf.pure 125 = true := rfl
@[simp] theorem c_pack125 : cf.pack 125 = .whole := rfl
@[simp] theorem c_wary125 (r : Nat) : cf.wary 125 r = false := rfl
@[simp] theorem c_clone125 : cf.clone 125 = none := rfl
@[simp] theorem k_out125 : kn.out 125 = .frz [[none, some (.i .i64)]] := rfl
@[simp] theorem k_args125 : kn.args 125 = [[none, some (.i .i64)], [none, some (.i .i64)]] := rfl
@[simp] theorem k_nils125 : kn.nils 125 = fun _ => none := rfl
@[simp] theorem k_gc125 : kn.gc 125 = true := rfl
@[simp] theorem k_ali125 : kn.ali 125 = false := rfl
/-! 126: spec.l9minor -/
@[simp] theorem c_keep126 (r : Nat) : cf.keep 126 r = tab126.getD r [] := rfl
@[simp] theorem c_pure126 : cf.pure 126 = true := rfl
@[simp] theorem c_pack126 : cf.pack 126 = .whole := rfl
@[simp] theorem c_wary126 (r : Nat) : cf.wary 126 r = false := rfl
@[simp] theorem c_clone126 : cf.clone 126 = none := rfl
@[simp] theorem k_out126 : kn.out 126 = .frz [[none, some (.s 3)]] := rfl
@[simp] theorem k_args126 : kn.args 126 = [[none, some (.s 3)]] := rfl
@[simp] theorem k_nils126 : kn.nils 126 = fun _ => none := rfl
@[simp] theorem k_gc126 : kn.gc 126 = true := rfl
@[simp] theorem k_ali126 : kn.ali 126 = false := rfl
/-! 127: spec.l4neg -/
@[simp] theorem c_keep127 (r : Nat) : cf.keep 127 r = tab127.getD r [] := rfl
@[simp] theorem c_pure127 : cf.pure 127 = true := rfl
@[simp] theorem c_pack127 : cf.pack 127 = .whole := rfl
@[simp] theorem c_wary127 (r : Nat) : cf.wary 127 r = false := rfl
@[simp] theorem c_clone127 : cf.clone 127 = none := rfl
@[simp] theorem k_out127 : kn.out 127 = .frz [[none, some (.i .i64)]] := rfl
@[simp] theorem k_args127 : kn.args 127 = [[none, some (.i .i64)]] := rfl
@[simp] theorem k_nils127 : kn.nils 127 = fun _ => none := rfl
@[simp] theorem k_gc127 : kn.gc 127 = true := rfl
@[simp] theorem k_ali127 : kn.ali 127 = false := rfl
/-! 128: spec.l4add -/
@[simp] theorem c_keep128 (r : Nat) : cf.keep 128 r = tab128.getD r [] := rfl
@[simp] theorem c_pure128 : cf.pure 128 = true := rfl
@[simp] theorem c_pack128 : cf.pack 128 = .whole := rfl
@[simp] theorem c_wary128 (r : Nat) : cf.wary 128 r = false := rfl
@[simp] theorem c_clone128 : cf.clone 128 = none := rfl
@[simp] theorem k_out128 : kn.out 128 = .frz [[none, some (.i .i64)]] := rfl
@[simp] theorem k_args128 : kn.args 128 = [[none, some (.i .i64)], [none, some (.i .i64)]] := rfl
@[simp] theorem k_nils128 : kn.nils 128 = fun _ => none := rfl
@[simp] theorem k_gc128 : kn.gc 128 = true := rfl
@[simp] theorem k_ali128 : kn.ali 128 = false := rfl
/-! 129: impl.areAll[impl.Dy] -/
@[simp] theorem c_keep129 (r : Nat) : cf.keep 129 r = tab129.getD r [] := rfl
@[simp] theorem c_pure129 : cf.pure 129 = true := rfl
@[simp] theorem c_pack129 : cf.pack 129 = .whole := rfl
@[simp] theorem c_wary129 (r : Nat) : cf.wary 129 r = false := rfl
@[simp] theorem c_clone129 : cf.clone 129 = none := rfl
@[simp] theorem k_out129 : kn.out 129 = .frz [] := rfl
@[simp] theorem k_args129 : kn.args 129 = [[some (.s 3)]] := rfl
@[simp] theorem k_nils129 : kn.nils 129 = fun _ => none := rfl
@[simp] theorem k_gc129 : kn.gc 129 = true := rfl
@[simp] theorem k_ali129 : kn.ali 129 = false := rfl
/-! 130: (impl.exact).plus -/
@[simp] theorem c_keep130 (r : Nat) : cf.keep 130 r = tab130.getD r [] := rfl
@[simp] theorem c_pure130 : cf.pure 130 = true := rfl
@[simp] theorem c_pack130 : cf.pack 130 = .whole := rfl
@[simp] theorem c_wary130 (r : Nat) : cf.wary 130 r = false := rfl
@[simp] theorem c_clone130 : cf.clone 130 = none := rfl
@[simp] theorem k_out130 : kn.out 130 = .frz [[none, some (.i .i64)]] := rfl
@[simp] theorem k_args130 : kn.args 130 = [[none, some (.i .i64)], [none, some (.i .i64)]] := rfl
@[simp] theorem k_nils130 : kn.nils 130 = fun _ => none := rfl
@[simp] theorem k_gc130 : kn.gc 130 = true := rfl
@[simp] theorem k_ali130 : kn.ali 130 = false := rfl
/-! 131: (impl.exact).negated -/
@[simp] theorem c_keep131 (r : Nat) : cf.keep 131 r = tab131.getD r [] := rfl
@[simp] theorem c_pure131 : cf.pure 131 = true := rfl
@[simp] theorem c_pack131 : cf.pack 131 = .whole := rfl
@[simp] theorem c_wary131 (r : Nat) : cf.wary 131 r = false := rfl
@[simp] theorem c_clone131 : cf.clone 131 = none := rfl
@[simp] theorem k_out131 : kn.out 131 = .frz [[none, some (.i .i64)]] := rfl
@[simp] theorem k_args131 : kn.args 131 = [[none, some (.i .i64)]] := rfl
@[simp] theorem k_nils131 : kn.nils 131 = fun _ => none := rfl
@[simp] theorem k_gc131 : kn.gc 131 = true := rfl
@[simp] theorem k_ali131 : kn.ali 131 = false := rfl
/-! 133: impl.areAll[int] -/
@[simp] theorem c_keep133 (r : Nat) : cf.keep 133 r = tab133.getD r [] := rfl
@[simp] theorem c_pure133 : cf.pure 133 = true := rfl
@[simp] theorem c_pack133 : cf.pack 133 = .whole := rfl
@[simp] theorem c_wary133 (r : Nat) : cf.wary 133 r = false := rfl
@[simp] theorem c_clone133 : cf.clone 133 = none := rfl
@[simp] theorem k_out133 : kn.out 133 = .frz [] := rfl
@[simp] theorem k_args133 : kn.args 133 = [[some (.i .i64)]] := rfl
@[simp] theorem k_nils133 : kn.nils 133 = fun _ => none := rfl
@[simp] theorem k_gc133 : kn.gc 133 = true := rfl
@[simp] theorem k_ali133 : kn.ali 133 = false := rfl
/-! 134: impl.NatOk$1 -/
@[simp] theorem c_keep134 (r : Nat) : cf.keep 134 r = tab134.getD r [] := rfl
@[simp] theorem c_pure134 : cf.pure 134 = true := rfl
@[simp] theorem c_pack134 : cf.pack 134 = .whole := rfl
@[simp] theorem c_wary134 (r : Nat) : cf.wary 134 r = false := rfl
@[simp] theorem c_clone134 : cf.clone 134 = none := rfl
@[simp] theorem k_out134 : kn.out 134 = .frz [] := rfl
@[simp] theorem k_args134 : kn.args 134 = [] := rfl
@[simp] theorem k_nils134 : kn.nils 134 = fun _ => none := rfl
@[simp] theorem k_gc134 : kn.gc 134 = true := rfl
@[simp] theorem k_ali134 : kn.ali 134 = false := rfl
/-! 137: spec.l4make -/
@[simp] theorem c_keep137 (r : Nat) : cf.keep 137 r = tab137.getD r [] := rfl
@[simp] theorem c_pure137 : cf.pure 137 = true := rfl
@[simp] theorem c_pack137 : cf.pack 137 = .whole := rfl
@[simp] theorem c_wary137 (r : Nat) : cf.wary 137 r = false := rfl
@[simp] theorem c_clone137 : cf.clone 137 = none := rfl
@[simp] theorem k_out137 : kn.out 137 = .frz [[none, some (.i .i64)]] := rfl
@[simp] theorem k_args137 : kn.args 137 = [[none, some (.i .i64)]] := rfl
@[simp] theorem k_nils137 : kn.nils 137 = fun _ => none := rfl
@[simp] theorem k_gc137 : kn.gc 137 = true := rfl
@[simp] theorem k_ali137 : kn.ali 137 = false := rfl
/-! 138: spec.l3mul -/
@[simp] theorem c_keep138 (r : Nat) : cf.keep 138 r = tab138.getD r [] := rfl
@[simp] theorem c_pure138 : cf.pure 138 = true := rfl
@[simp] theorem c_pack138 : cf.pack 138 = .whole := rfl
@[simp] theorem c_wary138 (r : Nat) : cf.wary 138 r = false := rfl
@[simp] theorem c_clone138 : cf.clone 138 = none := rfl
@[simp] theorem k_out138 : kn.out 138 = .frz [[none, some (.i .i64)]] := rfl
@[simp] theorem k_args138 : kn.args 138 = [[none, some (.i .i64)], [none, some (.i .i64)]] := rfl
@[simp] theorem k_nils138 : kn.nils 138 = fun _ => none := rfl
@[simp] theorem k_gc138 : kn.gc 138 = true := rfl
@[simp] theorem k_ali138 : kn.ali 138 = false := rfl
/-! 139: spec.l3neg -/
@[simp] theorem c_keep139 (r : Nat) : cf.keep 139 r = tab139.getD r [] := rfl
@[simp] theorem c_pure139 : cf.pure 139 = true := rfl
@[simp] theorem c_pack139 : cf.pack 139 = .whole := rfl
@[simp] theorem c_wary139 (r : Nat) : cf.wary 139 r = false := rfl
@[simp] theorem c_clone139 : cf.clone 139 = none := rfl
@[simp] theorem k_out139 : kn.out 139 = .frz [[none, some (.i .i64)]] := rfl
@[simp] theorem k_args139 : kn.args 139 = [[none, some (.i .i64)]] := rfl
@[simp] theorem k_nils139 : kn.nils 139 = fun _ => none := rfl
@[simp] theorem k_gc139 : kn.gc 139 = true := rfl
@[simp] theorem k_ali139 : kn.ali 139 = false := rfl
/-! 140: spec.l4align -/
@[simp] theorem c_keep140 (r : Nat) : cf.keep 140 r = tab140.getD r [] := rfl
@[simp] theorem c_pure140 : cf.pure 140 = true := rfl
@[simp] theorem c_pack140 : cf.pack 140 = .whole := rfl
@[simp] theorem c_wary140 (r : Nat) : cf.wary 140 r = (true) := rfl
@[simp] theorem c_clone140 : cf.clone 140 = none := rfl
@[simp] theorem k_out140 : kn.out 140 = .frz [[none, some (.i .i64)], [none, some (.i .i64)]] := rfl
@[simp] theorem k_args140 : kn.args 140 = [[none, some (.i .i64)], [none, some (.i .i64)]] := rfl
@[simp] theorem k_nils140 : kn.nils 140 = fun _ => none := rfl
@[simp] theorem k_gc140 : kn.gc 140 = true := rfl
@[simp] theorem k_ali140 : kn.ali 140 = false := rfl
/-! 141: spec.l3add -/
@[simp] theorem c_keep141 (r : Nat) : cf.keep 141 r = tab141.getD r [] := rfl
@[simp] theorem c_pure141 : cf.pure 141 = true := rfl
@[simp] theorem c_pack141 : cf.pack 141 = .whole := rfl
@[simp] theorem c_wary141 (r : Nat) : cf.wary 141 r = false := rfl
@[simp] theorem c_clone141 : cf.clone 141 = none := rfl
@[simp] theorem k_out141 : kn.out 141 = .frz [[none, some (.i .i64)]] := rfl
@[simp] theorem k_args141 : kn.args 141 = [[none, some (.i .i64)], [none, some (.i .i64)]] := rfl
@[simp] theorem k_nils141 : kn.nils 141 = fun _ => none := rfl
@[simp] theorem k_gc141 : kn.gc 141 = true := rfl
@[simp] theorem k_ali141 : kn.ali 141 = false := rfl
/-! 142: slices.ContainsFunc[[]impl.Dy,impl.Dy] -/
@[simp] theorem c_keep142 (r : Nat) : cf.keep 142 r = tab142.getD r [] := rfl
@[simp] theorem c_pure142 : cf.pure 142 = true := rfl
@[simp] theorem c_pack142 : cf.pack 142 = .whole := rfl
@[simp] theorem c_wary142 (r : Nat) : cf.wary 142 r = false := rfl
@[simp] theorem c_clone142 : cf.clone 142 = none := rfl
@[simp] theorem k_out142 : kn.out 142 = .frz [] := rfl
@[simp] theorem k_args142 : kn.args 142 = [[some (.s 3)]] := rfl
@[simp] theorem k_nils142 : kn.nils 142 = fun _ => none := rfl
@[simp] theorem k_gc142 : kn.gc 142 = true := rfl
@[simp] theorem k_ali142 : kn.ali 142 = false := rfl
/-! 143: impl.areAll[impl.Dy]$1 -/
@[simp] theorem c_keep143 (r : Nat) : cf.keep 143 r = tab143.getD r [] := rfl
@[simp] theorem c_pure143 : cf.pure 143 = true := rfl
@[simp] theorem c_pack143 : cf.pack 143 = .whole := rfl
@[simp] theorem c_wary143 (r : Nat) : cf.wary 143 r = false := rfl
@[simp] theorem c_clone143 : cf.clone 143 = none := rfl
@[simp] theorem k_out143 : kn.out 143 = .frz [] := rfl
@[simp] theorem k_args143 : kn.args 143 = [[none, some (.i .i64)]] := rfl
@[simp] theorem k_nils143 : kn.nils 143 = fun _ => none := rfl
@[simp] theorem k_gc143 : kn.gc 143 = true := rfl
@[simp] theorem k_ali143 : kn.ali 143 = false := rfl
/-! 144: impl.aligned -/
@[simp] theorem c_keep144 (r : Nat) : cf.keep 144 r = tab144.getD r [] := rfl
@[simp] theorem c_pure144 : cf.pure 144 = true := rfl
@[simp] theorem c_pack144 : cf.pack 144 = .whole := rfl
@[simp] theorem c_wary144 (r : Nat) : cf.wary 144 r = false := rfl
@[simp] theorem c_clone144 : cf.clone 144 = none := rfl
@[simp] theorem k_out144 : kn.out 144 = .frz [[some (.i .i64)], [some (.i .i64)]] := rfl
@[simp] theorem k_args144 : kn.args 144 = [[none, some (.i .i64)], [none, some (.i .i64)]] := rfl
@[simp] theorem k_nils144 : kn.nils 144 = nil144 := rfl
@[simp] theorem k_gc144 : kn.gc 144 = true := rfl
@[simp] theorem k_ali144 : kn.ali 144 = false := rfl
/-! 145: impl.signedSum -/
@[simp] theorem c_keep145 (r : Nat) : cf.keep 145 r = tab145.getD r [] := rfl
@[simp] theorem c_pure145 : cf.pure 145 = true := rfl
@[simp] theorem c_pack145 : cf.pack 145 = .whole := rfl
@[simp] theorem c_wary145 (r : Nat) : cf.wary 145 r = false := rfl
@[simp] theorem c_clone145 : cf.clone 145 = none := rfl
@[simp] theorem k_out145 : kn.out 145 = .frz [[], [some (.i .i64)]] := rfl
@[simp] theorem k_args145 : kn.args 145 = [[], [some (.i .i64)], [], [some (.i .i64)]] := rfl
@[simp] theorem k_nils145 : kn.nils 145 = nil145 := rfl
@[simp] theorem k_gc145 : kn.gc 145 = true := rfl
@[simp] theorem k_ali145 : kn.ali 145 = false := rfl
/-! 146: slices.ContainsFunc[[]int,int] -/
@[simp] theorem c_keep146 (r : Nat) : cf.keep 146 r = tab146.getD r [] := rfl
@[simp] theorem c_pure146 : cf.pure 146 = true := rfl
@[simp] theorem c_pack146 : cf.pack 146 = .whole := rfl
@[simp] theorem c_wary146 (r : Nat) : cf.wary 146 r = false := rfl
@[simp] theorem c_clone146 : cf.clone 146 = none := rfl
@[simp] theorem k_out146 : kn.out 146 = .frz [] := rfl
@[simp] theorem k_args146 : kn.args 146 = [[some (.i .i64)]] := rfl
@[simp] theorem k_nils146 : kn.nils 146 = fun _ => none := rfl
@[simp] theorem k_gc146 : kn.gc 146 = true := rfl
@[simp] theorem k_ali146 : kn.ali 146 = false := rfl
/-! 147: impl.areAll[int]$1 -/
@[simp] theorem c_keep147 (r : Nat) : cf.keep 147 r = tab147.getD r [] := rfl
@[simp] theorem c_pure147 : cf.pure 147 = true := rfl
@[simp] theorem c_pack147 : cf.pack 147 = .whole := rfl
@[simp] theorem c_wary147 (r : Nat) : cf.wary 147 r = false := rfl
@[simp] theorem c_clone147 : cf.clone 147 = none := rfl
@[simp] theorem k_out147 : kn.out 147 = .frz [] := rfl
@[simp] theorem k_args147 : kn.args 147 = [] := rfl
@[simp] theorem k_nils147 : kn.nils 147 = fun _ => none := rfl
@[simp] theorem k_gc147 : kn.gc 147 = true := rfl
@[simp] theorem k_ali147 : kn.ali 147 = false := rfl
/-! 148: spec.l2trail -/
@[simp] theorem c_keep148 (r : Nat) : cf.keep 148 r = tab148.getD r [] := rfl
@[simp] theorem c_pure148 : cf.pure 148 = true := rfl
@[simp] theorem c_pack148 : cf.pack 148 = .whole := rfl
@[simp] theorem c_wary148 (r : Nat) : cf.wary 148 r = false := rfl
@[simp] theorem c_clone148 : cf.clone 148 = none := rfl
@[simp] theorem k_out148 : kn.out 148 = .frz [] := rfl
@[simp] theorem k_args148 : kn.args 148 = [[some (.i .i64)]] := rfl
@[simp] theorem k_nils148 : kn.nils 148 = fun _ => none := rfl
@[simp] theorem k_gc148 : kn.gc 148 = true := rfl
@[simp] theorem k_ali148 : kn.ali 148 = false := rfl
/-! 149: spec.l2shr -/
@[simp] theorem c_keep149 (r : Nat) : cf.keep 149 r = tab149.getD r [] := rfl
@[simp] theorem c_pure149 : cf.pure 149 = true := rfl
@[simp] theorem c_pack149 : cf.pack 149 = .whole := rfl
@[simp] theorem c_wary149 (r : Nat) : cf.wary 149 r = false := rfl
@[simp] theorem c_clone149 : cf.clone 149 = none := rfl
@[simp] theorem k_out149 : kn.out 149 = .frz [[some (.i .i64)]] := rfl
@[simp] theorem k_args149 : kn.args 149 = [[some (.i .i64)]] := rfl
@[simp] theorem k_nils149 : kn.nils 149 = fun _ => none := rfl
@[simp] theorem k_gc149 : kn.gc 149 = true := rfl
@[simp] theorem k_ali149 : kn.ali 149 = false := rfl
/-! 150: spec.l2add -/
@[simp] theorem c_keep150 (r : Nat) : cf.keep 150 r = tab150.getD r [] := rfl
@[simp] theorem c_pure150 : cf.pure 150 = true := rfl
@[simp] theorem c_pack150 : cf.pack 150 = .whole := rfl
@[simp] theorem c_wary150 (r : Nat) : cf.wary 150 r = false := rfl
@[simp] theorem c_clone150 : cf.clone 150 = none := rfl
@[simp] theorem k_out150 : kn.out 150 = .frz [[some (.i .i64)]] := rfl
@[simp] theorem k_args150 : kn.args 150 = [[some (.i .i64)], [some (.i .i64)]] := rfl
@[simp] theorem k_nils150 : kn.nils 150 = nil150 := rfl
@[simp] theorem k_gc150 : kn.gc 150 = true := rfl
@[simp] theorem k_ali150 : kn.ali 150 = false := rfl
/-! 151: spec.l2cmp -/
@[simp] theorem c_keep151 (r : Nat) : cf.keep 151 r = tab151.getD r [] := rfl
@[simp] theorem c_pure151 : cf.pure 151 = true := rfl
@[simp] theorem c_pack151 : cf.pack 151 = .whole := rfl
@[simp] theorem c_wary151 (r : Nat) : cf.wary 151 r = false := rfl
@[simp] theorem c_clone151 : cf.clone 151 = none := rfl
@[simp] theorem k_out151 : kn.out 151 = .frz [] := rfl
@[simp] theorem k_args151 : kn.args 151 = [[some (.i .i64)], [some (.i .i64)]] := rfl
@[simp] theorem k_nils151 : kn.nils 151 = fun _ => none := rfl
@[simp] theorem k_gc151 : kn.gc 151 = true := rfl
@[simp] theorem k_ali151 : kn.ali 151 = false := rfl
/-! 152: spec.l2sub -/
@[simp] theorem c_keep152 (r : Nat) : cf.keep 152 r = tab152.getD r [] := rfl
@[simp] theorem c_pure152 : cf.pure 152 = true := rfl
@[simp] theorem c_pack152 : cf.pack 152 = .whole := rfl
@[simp] theorem c_wary152 (r : Nat) : cf.wary 152 r = false := rfl
@[simp] theorem c_clone152 : cf.clone 152 = none := rfl
@[simp] theorem k_out152 : kn.out 152 = .frz [[some (.i .i64)]] := rfl
@[simp] theorem k_args152 : kn.args 152 = [[some (.i .i64)], [some (.i .i64)]] := rfl
@[simp] theorem k_nils152 : kn.nils 152 = nil152 := rfl
@[simp] theorem k_gc152 : kn.gc 152 = true := rfl
@[simp] theorem k_ali152 : kn.ali 152 = false := rfl
/-! 153: slices.IndexFunc[[]impl.Dy,impl.Dy] -/
@[simp] theorem c_keep153 (r : Nat) : cf.keep 153 r = tab153.getD r [] := rfl
@[simp] theorem c_pure153 : cf.pure 153 = true := rfl
@[simp] theorem c_pack153 : cf.pack 153 = .whole := rfl
@[simp] theorem c_wary153 (r : Nat) : cf.wary 153 r = false := rfl
@[simp] theorem c_clone153 : cf.clone 153 = none := rfl
@[simp] theorem k_out153 : kn.out 153 = .frz [] := rfl
@[simp] theorem k_args153 : kn.args 153 = [[some (.s 3)]] := rfl
@[simp] theorem k_nils153 : kn.nils 153 = fun _ => none := rfl
@[simp] theorem k_gc153 : kn.gc 153 = true := rfl
@[simp] theorem k_ali153 : kn.ali 153 = false := rfl
/-! 154: impl.compare -/
@[simp] theorem c_keep154 (r : Nat) : cf.keep 154 r = tab154.getD r [] := rfl
@[simp] theorem c_pure154 : cf.pure 154 = true := rfl
@[simp] theorem c_pack154 : cf.pack 154 = .whole := rfl
@[simp] theorem c_wary154 (r : Nat) : cf.wary 154 r = false := rfl
@[simp] theorem c_clone154 : cf.clone 154 = none := rfl
@[simp] theorem k_out154 : kn.out 154 = .frz [] := rfl
@[simp] theorem k_args154 : kn.args 154 = [[some (.i .i64)], [some (.i .i64)]] := rfl
@[simp] theorem k_nils154 : kn.nils 154 = fun _ => none := rfl
@[simp] theorem k_gc154 : kn.gc 154 = true := rfl
@[simp] theorem k_ali154 : kn.ali 154 = false := rfl
/-! 155: slices.IndexFunc[[]int,int] -/
@[simp] theorem c_keep155 (r : Nat) : cf.keep 155 r = tab155.getD r [] := rfl
@[simp] theorem c_pure155 : cf.pure 155 = true := rfl
@[simp] theorem c_pack155 : cf.pack 155 = .whole := rfl
@[simp] theorem c_wary155 (r : Nat) : cf.wary 155 r = false := rfl
@[simp] theorem c_clone155 : cf.clone 155 = none := rfl
@[simp] theorem k_out155 : kn.out 155 = .frz [] := rfl
@[simp] theorem k_args155 : kn.args 155 = [[some (.i .i64)]] := rfl
@[simp] theorem k_nils155 : kn.nils 155 = fun _ => none := rfl
@[simp] theorem k_gc155 : kn.gc 155 = true := rfl
@[simp] theorem k_ali155 : kn.ali 155 = false := rfl
/-! 156: cmp.Compare[int] -/
@[simp] theorem c_keep156 (r : Nat) : cf.keep 156 r = tab156.getD r [] := rfl
@[simp] theorem c_pure156 : cf.pure 156 = true := rfl
@[simp] theorem c_pack156 : cf.pack 156 = .whole := rfl
@[simp] theorem c_wary156 (r : Nat) : cf.wary 156 r = false := rfl
@[simp] theorem c_clone156 : cf.clone 156 = none := rfl
@[simp] theorem k_out156 : kn.out 156 = .frz [] := rfl
@[simp] theorem k_args156 : kn.args 156 = [] := rfl
@[simp] theorem k_nils156 : kn.nils 156 = fun _ => none := rfl
@[simp] theorem k_gc156 : kn.gc 156 = true := rfl
@[simp] theorem k_ali156 : kn.ali 156 = false := rfl
/-! 157: cmp.isNaN[int] -/
@[simp] theorem c_keep157 (r : Nat) : cf.keep 157 r = tab157.getD r [] := rfl
@[simp] theorem c_pure157 : cf.pure 157 = true := rfl
@[simp] theorem c_pack157 : cf.pack 157 = .whole := rfl
@[simp] theorem c_wary157 (r : Nat) : cf.wary 157 r = false := rfl
@[simp] theorem c_clone157 : cf.clone 157 = none := rfl
@[simp] theorem k_out157 : kn.out 157 = .frz [] := rfl
@[simp] theorem k_args157 : kn.args 157 = [] := rfl
@[simp] theorem k_nils157 : kn.nils 157 = fun _ => none := rfl
@[simp] theorem k_gc157 : kn.gc 157 = true := rfl
@[simp] theorem k_ali157 : kn.ali 157 = false := rfl
theorem kept0 : ((impL ++ aliL).all fun f => (match kn.out f with | .inl => true | _ => false) && !kn.gc f) = true := by kernel_rfl
theorem kept1 (f : FuncId) : (cf.pure f = true ∧ kn.ali f = false) ∨ (kn.out f = .inl ∧ kn.gc f = false) := by
  cases hb : (impL ++ aliL).contains f with
  | false =>
    have h1 : ¬ f ∈ impL ++ aliL := fun h => by rw [List.contains_iff_mem.2 h] at hb; simp at hb
    rw [List.mem_append] at h1
    refine .inl ⟨?_, ?_⟩
    · show (!impL.contains f) = true
      cases h2 : impL.contains f with
      | false => rfl
      | true => exact absurd (.inl (List.contains_iff_mem.1 h2)) h1
    · show aliL.contains f = false
      cases h2 : aliL.contains f with
      | false => rfl
      | true => exact absurd (.inr (List.contains_iff_mem.1 h2)) h1
  | true =>
    have h := List.all_eq_true.1 kept0 f (List.contains_iff_mem.1 hb)
    rw [Bool.and_eq_true] at h
    refine .inr ⟨?_, by simpa using h.2⟩
    cases ho : kn.out f with
    | inl => rfl
    | own ks => rw [ho] at h; simp at h
    | frz ks => rw [ho] at h; simp at h
theorem kept : Kept kn where
  gc f hg := (kept1 f).resolve_right fun h => by rw [h.2] at hg; simp at hg
  out f := (kept1 f).symm.imp (fun h ks e => by rw [h.1] at e; cases e) id
  own f := (kept1 f).symm.imp (fun h ks e => by rw [h.1] at e; cases e) id
/-- What the proof of the engine asks of a function. -/
def staticF (cf : Cfg) (f : FuncId) (m : PM) (fn : Func) : Bool := match m with
  | .no => true
  | _ => match fn.body with
    | some c => codeOk cf f fn.ntmps c && !(fn.name == "runtime.NumGoroutine")
    | none => true
theorem static_all : ((List.range Try.prog.funcs.size).all fun f => Try.prog.funcs[f]?.all (staticF cf f (cf.pack f))) = true := by kernel_rfl
theorem static : Static Try.prog cf := fun f fn c hf hb hno => by
  have h := List.all_eq_true.1 static_all f (List.mem_range.2 (Array.getElem?_eq_some_iff.1 hf).1)
  rw [hf] at h
  simp only [Option.all_some] at h
  unfold staticF at h
  split at h
  · rename_i e; exact absurd e hno
  · rw [hb] at h; simpa using h
theorem clones : CloneOK Try.prog cf := fun f k h => by cases h
@[simp] theorem c_rounds : cf.rounds = 4294967296 := rfl
end Go.Eng
