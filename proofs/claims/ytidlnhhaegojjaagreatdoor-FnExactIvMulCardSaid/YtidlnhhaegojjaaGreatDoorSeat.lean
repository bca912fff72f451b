/- The value engine: the tables of this seat: types, and of each function what its regions and its calls leave. Printed by a program of this session. No conditions. -/
import Derived.Test.YtidlnhhaegojjaaGreatDoorProg
import Derived.Test.YtidlnhhaegojjaaGreatDoorVb
import Derived.KernelRfl
set_option linter.unusedVariables false
set_option linter.unusedSimpArgs false
namespace Go.Eng
open Go.Proofs
set_option maxRecDepth 100000
@[simp] theorem ty_u_3 : Tryz.prog.underlying 3 = some (.int .i64) := by kernel_rfl
@[simp] theorem ty_k_3 : kindOf Tryz.prog 3 = some .i64 := by kernel_rfl
@[simp] theorem ty_a_3 : aggT Tryz.prog 3 = some false := by kernel_rfl
@[simp] theorem ty_s_3 : sizeT Tryz.prog 3 = some 1 := by kernel_rfl
@[simp] theorem ty_b_3 : bytesT Tryz.prog 3 = some 8 := by kernel_rfl
@[simp] theorem ty_z_3 : zeroT Tryz.prog 3 = some (.c (.int .i64 0)) := by kernel_rfl
@[simp] theorem ty_u_4 : Tryz.prog.underlying 4 = some (.bool) := by kernel_rfl
@[simp] theorem ty_k_4 : kindOf Tryz.prog 4 = none := by kernel_rfl
@[simp] theorem ty_a_4 : aggT Tryz.prog 4 = some false := by kernel_rfl
@[simp] theorem ty_s_4 : sizeT Tryz.prog 4 = some 1 := by kernel_rfl
@[simp] theorem ty_b_4 : bytesT Tryz.prog 4 = some 1 := by kernel_rfl
@[simp] theorem ty_z_4 : zeroT Tryz.prog 4 = some (.c (.bool false)) := by kernel_rfl
@[simp] theorem ty_u_5 : Tryz.prog.underlying 5 = some (.int .u8) := by kernel_rfl
@[simp] theorem ty_k_5 : kindOf Tryz.prog 5 = some .u8 := by kernel_rfl
@[simp] theorem ty_a_5 : aggT Tryz.prog 5 = some false := by kernel_rfl
@[simp] theorem ty_s_5 : sizeT Tryz.prog 5 = some 1 := by kernel_rfl
@[simp] theorem ty_b_5 : bytesT Tryz.prog 5 = some 1 := by kernel_rfl
@[simp] theorem ty_z_5 : zeroT Tryz.prog 5 = some (.c (.int .u8 0)) := by kernel_rfl
@[simp] theorem ty_u_22 : Tryz.prog.underlying 22 = some (.slice 3) := by kernel_rfl
@[simp] theorem ty_k_22 : kindOf Tryz.prog 22 = none := by kernel_rfl
@[simp] theorem ty_a_22 : aggT Tryz.prog 22 = some false := by kernel_rfl
@[simp] theorem ty_s_22 : sizeT Tryz.prog 22 = some 1 := by kernel_rfl
@[simp] theorem ty_b_22 : bytesT Tryz.prog 22 = some 24 := by kernel_rfl
@[simp] theorem ty_e_22 : elemS Tryz.prog 22 = some 3 := by kernel_rfl
@[simp] theorem ty_z_22 : zeroT Tryz.prog 22 = some (.c (.nil)) := by kernel_rfl
@[simp] theorem ty_k_24 : kindOf Tryz.prog 24 = none := by kernel_rfl
@[simp] theorem ty_a_24 : aggT Tryz.prog 24 = some true := by kernel_rfl
@[simp] theorem ty_s_24 : sizeT Tryz.prog 24 = some 1 := by kernel_rfl
@[simp] theorem ty_b_24 : bytesT Tryz.prog 24 = some 24 := by kernel_rfl
@[simp] theorem ty_z_24 : zeroT Tryz.prog 24 = some (.agg [.nil]) := by kernel_rfl
@[simp] theorem ty_f_24_0 : fieldOf Tryz.prog 24 0 = some (0, 1, false) := by kernel_rfl
@[simp] theorem ty_p_24 : placesB Tryz.prog 24 = some [(0, 1)] := by kernel_rfl
@[simp] theorem ty_k_26 : kindOf Tryz.prog 26 = none := by kernel_rfl
@[simp] theorem ty_a_26 : aggT Tryz.prog 26 = some true := by kernel_rfl
@[simp] theorem ty_s_26 : sizeT Tryz.prog 26 = some 2 := by kernel_rfl
@[simp] theorem ty_b_26 : bytesT Tryz.prog 26 = some 32 := by kernel_rfl
@[simp] theorem ty_z_26 : zeroT Tryz.prog 26 = some (.agg [.bool false, .nil]) := by kernel_rfl
@[simp] theorem ty_f_26_0 : fieldOf Tryz.prog 26 0 = some (0, 1, false) := by kernel_rfl
@[simp] theorem ty_f_26_1 : fieldOf Tryz.prog 26 1 = some (1, 1, true) := by kernel_rfl
@[simp] theorem ty_p_26 : placesB Tryz.prog 26 = some [(0, 1), (1, 1)] := by kernel_rfl
@[simp] theorem ty_k_28 : kindOf Tryz.prog 28 = none := by kernel_rfl
@[simp] theorem ty_a_28 : aggT Tryz.prog 28 = some true := by kernel_rfl
@[simp] theorem ty_s_28 : sizeT Tryz.prog 28 = some 3 := by kernel_rfl
@[simp] theorem ty_b_28 : bytesT Tryz.prog 28 = some 40 := by kernel_rfl
@[simp] theorem ty_z_28 : zeroT Tryz.prog 28 = some (.agg [.bool false, .nil, .int .i64 0]) := by kernel_rfl
@[simp] theorem ty_f_28_0 : fieldOf Tryz.prog 28 0 = some (0, 2, true) := by kernel_rfl
@[simp] theorem ty_f_28_1 : fieldOf Tryz.prog 28 1 = some (2, 1, false) := by kernel_rfl
@[simp] theorem ty_p_28 : placesB Tryz.prog 28 = some [(0, 2), (2, 1)] := by kernel_rfl
@[simp] theorem ty_k_30 : kindOf Tryz.prog 30 = none := by kernel_rfl
@[simp] theorem ty_a_30 : aggT Tryz.prog 30 = some true := by kernel_rfl
@[simp] theorem ty_s_30 : sizeT Tryz.prog 30 = some 6 := by kernel_rfl
@[simp] theorem ty_b_30 : bytesT Tryz.prog 30 = some 80 := by kernel_rfl
@[simp] theorem ty_z_30 : zeroT Tryz.prog 30 = some (.agg [.bool false, .nil, .int .i64 0, .bool false, .nil, .int .i64 0]) := by kernel_rfl
@[simp] theorem ty_f_30_0 : fieldOf Tryz.prog 30 0 = some (0, 3, true) := by kernel_rfl
@[simp] theorem ty_f_30_1 : fieldOf Tryz.prog 30 1 = some (3, 3, true) := by kernel_rfl
@[simp] theorem ty_p_30 : placesB Tryz.prog 30 = some [(0, 3), (3, 3)] := by kernel_rfl
@[simp] theorem ty_k_32 : kindOf Tryz.prog 32 = none := by kernel_rfl
@[simp] theorem ty_a_32 : aggT Tryz.prog 32 = some true := by kernel_rfl
@[simp] theorem ty_s_32 : sizeT Tryz.prog 32 = some 1 := by kernel_rfl
@[simp] theorem ty_b_32 : bytesT Tryz.prog 32 = some 24 := by kernel_rfl
@[simp] theorem ty_z_32 : zeroT Tryz.prog 32 = some (.agg [.nil]) := by kernel_rfl
@[simp] theorem ty_f_32_0 : fieldOf Tryz.prog 32 0 = some (0, 1, false) := by kernel_rfl
@[simp] theorem ty_p_32 : placesB Tryz.prog 32 = some [(0, 1)] := by kernel_rfl
@[simp] theorem ty_k_34 : kindOf Tryz.prog 34 = none := by kernel_rfl
@[simp] theorem ty_a_34 : aggT Tryz.prog 34 = some true := by kernel_rfl
@[simp] theorem ty_s_34 : sizeT Tryz.prog 34 = some 2 := by kernel_rfl
@[simp] theorem ty_b_34 : bytesT Tryz.prog 34 = some 32 := by kernel_rfl
@[simp] theorem ty_z_34 : zeroT Tryz.prog 34 = some (.agg [.bool false, .nil]) := by kernel_rfl
@[simp] theorem ty_f_34_0 : fieldOf Tryz.prog 34 0 = some (0, 1, false) := by kernel_rfl
@[simp] theorem ty_f_34_1 : fieldOf Tryz.prog 34 1 = some (1, 1, true) := by kernel_rfl
@[simp] theorem ty_p_34 : placesB Tryz.prog 34 = some [(0, 1), (1, 1)] := by kernel_rfl
@[simp] theorem ty_k_36 : kindOf Tryz.prog 36 = none := by kernel_rfl
@[simp] theorem ty_a_36 : aggT Tryz.prog 36 = some true := by kernel_rfl
@[simp] theorem ty_s_36 : sizeT Tryz.prog 36 = some 3 := by kernel_rfl
@[simp] theorem ty_b_36 : bytesT Tryz.prog 36 = some 40 := by kernel_rfl
@[simp] theorem ty_z_36 : zeroT Tryz.prog 36 = some (.agg [.bool false, .nil, .int .i64 0]) := by kernel_rfl
@[simp] theorem ty_f_36_0 : fieldOf Tryz.prog 36 0 = some (0, 2, true) := by kernel_rfl
@[simp] theorem ty_f_36_1 : fieldOf Tryz.prog 36 1 = some (2, 1, false) := by kernel_rfl
@[simp] theorem ty_p_36 : placesB Tryz.prog 36 = some [(0, 2), (2, 1)] := by kernel_rfl
@[simp] theorem ty_k_38 : kindOf Tryz.prog 38 = none := by kernel_rfl
@[simp] theorem ty_a_38 : aggT Tryz.prog 38 = some true := by kernel_rfl
@[simp] theorem ty_s_38 : sizeT Tryz.prog 38 = some 6 := by kernel_rfl
@[simp] theorem ty_b_38 : bytesT Tryz.prog 38 = some 80 := by kernel_rfl
@[simp] theorem ty_z_38 : zeroT Tryz.prog 38 = some (.agg [.bool false, .nil, .int .i64 0, .bool false, .nil, .int .i64 0]) := by kernel_rfl
@[simp] theorem ty_f_38_0 : fieldOf Tryz.prog 38 0 = some (0, 3, true) := by kernel_rfl
@[simp] theorem ty_f_38_1 : fieldOf Tryz.prog 38 1 = some (3, 3, true) := by kernel_rfl
@[simp] theorem ty_p_38 : placesB Tryz.prog 38 = some [(0, 3), (3, 3)] := by kernel_rfl
@[simp] theorem ty_k_46 : kindOf Tryz.prog 46 = none := by kernel_rfl
@[simp] theorem ty_a_46 : aggT Tryz.prog 46 = some false := by kernel_rfl
@[simp] theorem ty_s_46 : sizeT Tryz.prog 46 = some 1 := by kernel_rfl
@[simp] theorem ty_b_46 : bytesT Tryz.prog 46 = some 8 := by kernel_rfl
@[simp] theorem ty_k_52 : kindOf Tryz.prog 52 = none := by kernel_rfl
@[simp] theorem ty_a_52 : aggT Tryz.prog 52 = some true := by kernel_rfl
@[simp] theorem ty_s_52 : sizeT Tryz.prog 52 = some 3 := by kernel_rfl
@[simp] theorem ty_b_52 : bytesT Tryz.prog 52 = some 40 := by kernel_rfl
@[simp] theorem ty_z_52 : zeroT Tryz.prog 52 = some (.agg [.bool false, .nil, .int .i64 0]) := by kernel_rfl
@[simp] theorem ty_f_52_0 : fieldOf Tryz.prog 52 0 = some (0, 1, false) := by kernel_rfl
@[simp] theorem ty_f_52_1 : fieldOf Tryz.prog 52 1 = some (1, 1, false) := by kernel_rfl
@[simp] theorem ty_f_52_2 : fieldOf Tryz.prog 52 2 = some (2, 1, false) := by kernel_rfl
@[simp] theorem ty_p_52 : placesB Tryz.prog 52 = some [(0, 1), (1, 1), (2, 1)] := by kernel_rfl
@[simp] theorem ty_k_54 : kindOf Tryz.prog 54 = none := by kernel_rfl
@[simp] theorem ty_a_54 : aggT Tryz.prog 54 = some true := by kernel_rfl
@[simp] theorem ty_s_54 : sizeT Tryz.prog 54 = some 6 := by kernel_rfl
@[simp] theorem ty_b_54 : bytesT Tryz.prog 54 = some 80 := by kernel_rfl
@[simp] theorem ty_z_54 : zeroT Tryz.prog 54 = some (.agg [.bool false, .nil, .int .i64 0, .bool false, .nil, .int .i64 0]) := by kernel_rfl
@[simp] theorem ty_f_54_0 : fieldOf Tryz.prog 54 0 = some (0, 3, true) := by kernel_rfl
@[simp] theorem ty_f_54_1 : fieldOf Tryz.prog 54 1 = some (3, 3, true) := by kernel_rfl
@[simp] theorem ty_p_54 : placesB Tryz.prog 54 = some [(0, 3), (3, 3)] := by kernel_rfl
@[simp] theorem ty_k_61 : kindOf Tryz.prog 61 = none := by kernel_rfl
@[simp] theorem ty_a_61 : aggT Tryz.prog 61 = some false := by kernel_rfl
@[simp] theorem ty_s_61 : sizeT Tryz.prog 61 = some 1 := by kernel_rfl
@[simp] theorem ty_b_61 : bytesT Tryz.prog 61 = some 8 := by kernel_rfl
@[simp] theorem ty_u_65 : Tryz.prog.underlying 65 = some (.slice 36) := by kernel_rfl
@[simp] theorem ty_k_65 : kindOf Tryz.prog 65 = none := by kernel_rfl
@[simp] theorem ty_a_65 : aggT Tryz.prog 65 = some false := by kernel_rfl
@[simp] theorem ty_s_65 : sizeT Tryz.prog 65 = some 1 := by kernel_rfl
@[simp] theorem ty_b_65 : bytesT Tryz.prog 65 = some 24 := by kernel_rfl
@[simp] theorem ty_e_65 : elemS Tryz.prog 65 = some 36 := by kernel_rfl
@[simp] theorem ty_z_65 : zeroT Tryz.prog 65 = some (.c (.nil)) := by kernel_rfl
@[simp] theorem ty_u_67 : Tryz.prog.underlying 67 = some (.slice 38) := by kernel_rfl
@[simp] theorem ty_k_67 : kindOf Tryz.prog 67 = none := by kernel_rfl
@[simp] theorem ty_a_67 : aggT Tryz.prog 67 = some false := by kernel_rfl
@[simp] theorem ty_s_67 : sizeT Tryz.prog 67 = some 1 := by kernel_rfl
@[simp] theorem ty_b_67 : bytesT Tryz.prog 67 = some 24 := by kernel_rfl
@[simp] theorem ty_e_67 : elemS Tryz.prog 67 = some 38 := by kernel_rfl
@[simp] theorem ty_z_67 : zeroT Tryz.prog 67 = some (.c (.nil)) := by kernel_rfl
@[simp] theorem ty_u_70 : Tryz.prog.underlying 70 = some (.slice 52) := by kernel_rfl
@[simp] theorem ty_k_70 : kindOf Tryz.prog 70 = none := by kernel_rfl
@[simp] theorem ty_a_70 : aggT Tryz.prog 70 = some false := by kernel_rfl
@[simp] theorem ty_s_70 : sizeT Tryz.prog 70 = some 1 := by kernel_rfl
@[simp] theorem ty_b_70 : bytesT Tryz.prog 70 = some 24 := by kernel_rfl
@[simp] theorem ty_e_70 : elemS Tryz.prog 70 = some 52 := by kernel_rfl
@[simp] theorem ty_z_70 : zeroT Tryz.prog 70 = some (.c (.nil)) := by kernel_rfl
@[simp] theorem ty_k_72 : kindOf Tryz.prog 72 = none := by kernel_rfl
@[simp] theorem ty_a_72 : aggT Tryz.prog 72 = some false := by kernel_rfl
@[simp] theorem ty_s_72 : sizeT Tryz.prog 72 = some 1 := by kernel_rfl
@[simp] theorem ty_b_72 : bytesT Tryz.prog 72 = some 8 := by kernel_rfl
@[simp] theorem ty_k_93 : kindOf Tryz.prog 93 = none := by kernel_rfl
@[simp] theorem ty_a_93 : aggT Tryz.prog 93 = some false := by kernel_rfl
@[simp] theorem ty_s_93 : sizeT Tryz.prog 93 = some 1 := by kernel_rfl
@[simp] theorem ty_b_93 : bytesT Tryz.prog 93 = some 8 := by kernel_rfl
@[simp] theorem ty_u_121 : Tryz.prog.underlying 121 = some (.int .u64) := by kernel_rfl
@[simp] theorem ty_k_121 : kindOf Tryz.prog 121 = some .u64 := by kernel_rfl
@[simp] theorem ty_a_121 : aggT Tryz.prog 121 = some false := by kernel_rfl
@[simp] theorem ty_s_121 : sizeT Tryz.prog 121 = some 1 := by kernel_rfl
@[simp] theorem ty_b_121 : bytesT Tryz.prog 121 = some 8 := by kernel_rfl
@[simp] theorem ty_z_121 : zeroT Tryz.prog 121 = some (.c (.int .u64 0)) := by kernel_rfl
@[simp] theorem ty_u_125 : Tryz.prog.underlying 125 = some (.int .u32) := by kernel_rfl
@[simp] theorem ty_k_125 : kindOf Tryz.prog 125 = some .u32 := by kernel_rfl
@[simp] theorem ty_a_125 : aggT Tryz.prog 125 = some false := by kernel_rfl
@[simp] theorem ty_s_125 : sizeT Tryz.prog 125 = some 1 := by kernel_rfl
@[simp] theorem ty_b_125 : bytesT Tryz.prog 125 = some 4 := by kernel_rfl
@[simp] theorem ty_z_125 : zeroT Tryz.prog 125 = some (.c (.int .u32 0)) := by kernel_rfl
@[simp] theorem ty_u_127 : Tryz.prog.underlying 127 = some (.int .u64) := by kernel_rfl
@[simp] theorem ty_k_127 : kindOf Tryz.prog 127 = some .u64 := by kernel_rfl
@[simp] theorem ty_a_127 : aggT Tryz.prog 127 = some false := by kernel_rfl
@[simp] theorem ty_s_127 : sizeT Tryz.prog 127 = some 1 := by kernel_rfl
@[simp] theorem ty_b_127 : bytesT Tryz.prog 127 = some 8 := by kernel_rfl
@[simp] theorem ty_z_127 : zeroT Tryz.prog 127 = some (.c (.int .u64 0)) := by kernel_rfl
@[simp] theorem ty_k_129 : kindOf Tryz.prog 129 = none := by kernel_rfl
@[simp] theorem ty_a_129 : aggT Tryz.prog 129 = some false := by kernel_rfl
@[simp] theorem ty_s_129 : sizeT Tryz.prog 129 = some 1 := by kernel_rfl
@[simp] theorem ty_b_129 : bytesT Tryz.prog 129 = some 8 := by kernel_rfl
@[simp] theorem ty_u_130 : Tryz.prog.underlying 130 = some (.array 32 5) := by kernel_rfl
@[simp] theorem ty_k_130 : kindOf Tryz.prog 130 = none := by kernel_rfl
@[simp] theorem ty_a_130 : aggT Tryz.prog 130 = some true := by kernel_rfl
@[simp] theorem ty_s_130 : sizeT Tryz.prog 130 = some 32 := by kernel_rfl
@[simp] theorem ty_b_130 : bytesT Tryz.prog 130 = some 32 := by kernel_rfl
@[simp] theorem ty_z_130 : zeroT Tryz.prog 130 = some (.agg [.int .u8 0, .int .u8 0, .int .u8 0, .int .u8 0, .int .u8 0, .int .u8 0, .int .u8 0, .int .u8 0, .int .u8 0, .int .u8 0, .int .u8 0, .int .u8 0, .int .u8 0, .int .u8 0, .int .u8 0, .int .u8 0, .int .u8 0, .int .u8 0, .int .u8 0, .int .u8 0, .int .u8 0, .int .u8 0, .int .u8 0, .int .u8 0, .int .u8 0, .int .u8 0, .int .u8 0, .int .u8 0, .int .u8 0, .int .u8 0, .int .u8 0, .int .u8 0]) := by kernel_rfl
@[simp] theorem ty_u_131 : Tryz.prog.underlying 131 = some (.array 64 5) := by kernel_rfl
@[simp] theorem ty_k_131 : kindOf Tryz.prog 131 = none := by kernel_rfl
@[simp] theorem ty_a_131 : aggT Tryz.prog 131 = some true := by kernel_rfl
@[simp] theorem ty_s_131 : sizeT Tryz.prog 131 = some 64 := by kernel_rfl
@[simp] theorem ty_b_131 : bytesT Tryz.prog 131 = some 64 := by kernel_rfl
@[simp] theorem ty_z_131 : zeroT Tryz.prog 131 = some (.agg [.int .u8 0, .int .u8 0, .int .u8 0, .int .u8 0, .int .u8 0, .int .u8 0, .int .u8 0, .int .u8 0, .int .u8 0, .int .u8 0, .int .u8 0, .int .u8 0, .int .u8 0, .int .u8 0, .int .u8 0, .int .u8 0, .int .u8 0, .int .u8 0, .int .u8 0, .int .u8 0, .int .u8 0, .int .u8 0, .int .u8 0, .int .u8 0, .int .u8 0, .int .u8 0, .int .u8 0, .int .u8 0, .int .u8 0, .int .u8 0, .int .u8 0, .int .u8 0, .int .u8 0, .int .u8 0, .int .u8 0, .int .u8 0, .int .u8 0, .int .u8 0, .int .u8 0, .int .u8 0, .int .u8 0, .int .u8 0, .int .u8 0, .int .u8 0, .int .u8 0, .int .u8 0, .int .u8 0, .int .u8 0, .int .u8 0, .int .u8 0, .int .u8 0, .int .u8 0, .int .u8 0, .int .u8 0, .int .u8 0, .int .u8 0, .int .u8 0, .int .u8 0, .int .u8 0, .int .u8 0, .int .u8 0, .int .u8 0, .int .u8 0, .int .u8 0]) := by kernel_rfl
def tab3 : List (List Nat) := [[2, 3], [2, 3, 5], [2, 3, 5], [2, 3, 5, 21], [4], [2, 3, 5], [2, 3, 26], [4], [2, 3, 6, 7], [2, 3, 6, 7, 8], [2, 3, 6, 7, 8, 9], [2, 3, 6, 7, 8, 9, 10, 11], [2, 3, 6, 7, 8, 9, 10, 11, 53], [4], [2, 3, 6, 7, 8, 9, 10, 11, 58], [4], [2, 3, 6, 7, 8, 9, 10, 11, 63], [4], [2, 3, 6, 7, 8, 9, 10, 11, 12], [2, 3, 6, 7, 9, 10, 11, 12], [2, 3, 6, 7, 10, 11, 12], [2, 3, 6, 7, 10, 82], [4], [2, 3, 6, 7, 10, 13], [2, 3, 6, 7, 10, 13], [2, 3, 6, 7, 10, 13, 14], [2, 3, 6, 7, 10, 13, 14], [2, 3, 6, 7, 10, 13, 14, 90], [4], [2, 3, 6, 7, 10, 13, 93], [4], [6, 7, 10, 13, 15, 16], [10, 13, 110], [4], [10, 13, 14], [13, 14], [13, 14, 115], [4], [118], [4], [4]]
def tab4 : List (List Nat) := [[1, 2], [1, 2], [1, 2, 10], [4], [1], [1, 16], [4], [4]]
def tab5 : List (List Nat) := [[2, 3, 4], [2, 3, 4, 13], [4, 5], [4, 5]]
def tab6 : List (List Nat) := [[1, 2], [1, 2, 3], [1, 2, 3], [2, 3], [2]]
def tab7 : List (List Nat) := [[2, 3, 4], [2, 3, 4, 10], [4, 5], [4, 5]]
def tab8 : List (List Nat) := [[2, 3], [2, 3, 10], [4], [16], [4], [4]]
def tab9 : List (List Nat) := [[1, 2], [1, 2], [1], [4]]
def tab10 : List (List Nat) := [[1, 2], [1, 2], [1, 2, 10], [4], [1], [1, 16], [4], [4]]
def tab11 : List (List Nat) := [[1, 2], [1], [1, 10], [4], [4]]
def tab12 : List (List Nat) := [[1], [2]]
def tab13 : List (List Nat) := [[1, 2], [1, 2, 13], [2, 3], [2, 3]]
def tab14 : List (List Nat) := [[2, 3, 4], [4, 5], [4, 5, 6], [4, 5, 6, 7], [4, 5, 6, 7, 37], [4, 5, 6, 7], [4, 5, 6, 7], [4, 5, 6, 7], [4]]
def tab15 : List (List Nat) := [[1, 2], [1, 2, 3], [1, 2, 3], [2, 3], [2]]
def tab16 : List (List Nat) := [[0], [2]]
def tab17 : List (List Nat) := [[1, 2], [2]]
def tab18 : List (List Nat) := [[2, 3, 4], [4, 5], [4]]
def tab19 : List (List Nat) := [[1, 2], [1, 2, 4, 5], [2, 4, 5, 6, 7], [2, 4, 6, 25], [2, 3], [2, 3]]
def tab20 : List (List Nat) := [[2, 3], [2, 3, 10], [4], [15], [4], [4]]
def tab21 : List (List Nat) := [[1, 2], [1], [4]]
def tab22 : List (List Nat) := [[1, 2], [1], [1, 10], [4], [4]]
def tab23 : List (List Nat) := [[1, 2], [1], [1, 10], [4], [4]]
def tab24 : List (List Nat) := [[1], [1, 16], [2], [1, 22], [2], [2]]
def tab25 : List (List Nat) := [[2, 3], [5, 6], [4]]
def tab26 : List (List Nat) := [[1, 2], [2]]
def tab27 : List (List Nat) := [[2, 3, 4], [4]]
def tab28 : List (List Nat) := [[2, 3, 4], [2, 3, 4, 8], [4], [4]]
def tab29 : List (List Nat) := [[2, 3, 4], [2, 3, 4, 8], [4], [4]]
def tab30 : List (List Nat) := [[1, 2], [1, 2, 3], [1, 2, 3], [2, 3], [2]]
def tab31 : List (List Nat) := [[0, 3], [4]]
def tab32 : List (List Nat) := [[1], [2]]
def tab33 : List (List Nat) := [[1, 2], [2]]
def tab34 : List (List Nat) := [[2, 3, 4], [6]]
def tab35 : List (List Nat) := [[2, 3, 4], [2, 3, 4, 5], [4]]
def tab36 : List (List Nat) := [[0, 2], [2]]
def tab37 : List (List Nat) := [[0, 2], [2]]
def tab38 : List (List Nat) := [[1, 2], [1, 2], [1, 2, 4, 5], [1, 2, 4, 23], [2, 3], [2, 3]]
def tab39 : List (List Nat) := [[2, 3], [2, 3, 9], [4], [15], [4], [4]]
def tab40 : List (List Nat) := [[1, 2], [1], [4]]
def tab41 : List (List Nat) := [[1, 2], [1], [1, 10], [4], [4]]
def tab42 : List (List Nat) := [[1, 2], [1], [1, 10], [4], [4]]
def tab43 : List (List Nat) := [[1], [2]]
def tab44 : List (List Nat) := [[1, 2], [1, 2, 14], [4], [4]]
def tab45 : List (List Nat) := [[2, 3, 4, 5], [2, 3, 4, 5, 12], [4, 5, 6], [2, 3, 4, 5, 24], [4, 5, 6], [2, 3, 4, 5, 35], [4, 5, 6], [4, 5, 6]]
def tab46 : List (List Nat) := [[2, 3], [2, 3, 9], [11], [4], [4], [2, 3, 13], [4], [4]]
def tab47 : List (List Nat) := [[0, 3, 4], [4]]
def tab48 : List (List Nat) := [[1, 2, 4], [1, 2, 4, 10], [4], [1, 2, 4, 5], [4]]
def tab49 : List (List Nat) := [[2, 3, 4], [4]]
def tab50 : List (List Nat) := [[1, 2], [1, 2, 3], [2, 3], [2]]
def tab51 : List (List Nat) := [[0, 1], [4]]
def tab52 : List (List Nat) := [[1, 2], [3]]
def tab53 : List (List Nat) := [[0], [2]]
def tab54 : List (List Nat) := [[2, 3], [2, 3, 5, 6], [4]]
def tab55 : List (List Nat) := [[0, 1], [0, 1, 5], [1, 5, 17, 18, 19], [1, 5, 17, 18, 19, 20], [1, 5, 6, 7, 17, 18, 19], [1, 5, 6, 7, 8, 17, 18, 19], [1, 5, 6, 7, 8, 17, 18, 19, 24, 25, 26], [1, 5, 6, 7, 8, 17, 18, 19, 24, 25, 26, 27], [1, 5, 6, 7, 8, 9, 10, 17, 18, 19, 24, 25, 26], [1, 5, 6, 7, 8, 9, 17, 18, 19, 24, 25, 26], [1, 5, 6, 7, 8, 17, 18, 19, 24, 25, 26], [1, 5, 6, 7, 8, 17, 18, 19, 24, 25, 26], [1, 5, 6, 7, 8, 17, 18, 19, 24, 25, 26], [1, 5, 17, 18, 19], [1, 5, 17, 18, 19], [4]]
def tab56 : List (List Nat) := [[0, 1, 4], [0, 1, 4, 9], [0, 1, 4], [0, 1, 4, 5], [0, 1, 4, 5, 6], [0, 1, 4, 5, 6, 17], [0, 1, 4, 5, 6], [0, 1, 4, 5, 6, 27], [0, 1, 4, 5, 6], [4]]
def tab57 : List (List Nat) := [[0, 1, 4], [0, 1, 4, 9], [0, 1, 4], [0, 1, 4, 5], [0, 1, 4, 5, 6], [0, 1, 4, 5, 6, 17], [0, 1, 4, 5, 6], [0, 1, 4, 5, 6, 27], [0, 1, 4, 5, 6], [4]]
def tab58 : List (List Nat) := [[1, 2], [1, 2, 7], [2], [1, 2, 3], [2]]
def tab59 : List (List Nat) := [[0, 1, 4], [0, 1, 4, 6, 7], [0, 1, 4, 6, 14], [4, 5], [4, 5]]
def tab60 : List (List Nat) := [[0, 1, 2], [6]]
def tab61 : List (List Nat) := [[2, 3], [10], [4], [4]]
def tab62 : List (List Nat) := [[1, 2], [1], [4]]
def tab63 : List (List Nat) := [[1, 2], [1], [1, 10], [4], [4]]
def tab64 : List (List Nat) := [[0, 1], [1], [1, 10], [4], [4]]
def tab65 : List (List Nat) := [[1], [1, 7], [2], [1, 3], [1, 3, 12], [1, 3], [1, 3, 28], [2], [2]]
def tab66 : List (List Nat) := [[1, 2, 4], [1, 2, 4, 8], [4], [4]]
def tab67 : List (List Nat) := [[2, 3], [2, 3, 12], [19], [4], [4], [2, 3, 5], [2, 3, 5, 25], [2, 3, 5], [2, 3, 5, 38], [4], [2, 3, 5, 49], [4], [4]]
def tab68 : List (List Nat) := [[0, 2], [0, 2, 3], [0, 2, 3, 15], [0, 2, 3], [2]]
def tab69 : List (List Nat) := [[1], [1, 3], [1, 3, 9], [1, 3], [1, 3, 15], [2], [2]]
def tab70 : List (List Nat) := [[1, 2, 4], [1, 2, 4, 12], [4], [4, 5], [4]]
def tab71 : List (List Nat) := [[2, 3, 4], [2, 3, 4, 5], [2, 3, 4, 5, 6], [2, 3, 4, 5, 6, 22], [2, 3, 4, 5, 6], [2, 3, 4, 5, 6, 7], [2, 3, 4, 5, 6, 7, 8], [2, 3, 4, 5, 6, 7, 8, 29], [2, 3, 4, 5, 6, 7, 8], [2, 3, 4, 5, 6, 8, 9], [2, 3, 4, 5, 6, 8, 9], [2, 3, 4, 5, 6, 7, 8], [2, 3, 4, 5, 6], [4]]
def tab72 : List (List Nat) := [[0], [0, 3], [0, 3, 4], [0, 3, 4, 11], [0, 3, 4], [0, 3, 4], [2]]
def tab73 : List (List Nat) := [[0, 1], [0, 1, 7, 8], [0, 1, 7, 8, 9], [0, 1, 5, 7, 8], [0, 1, 5, 7, 8, 16], [4], [0, 1, 7, 8], [4]]
def tab74 : List (List Nat) := [[0, 3], [4]]
def tab75 : List (List Nat) := [[1], [1, 12], [2], [2]]
def tab76 : List (List Nat) := [[2, 3], [2, 3, 7], [2, 3, 7, 16], [2, 3, 7], [2, 3, 7, 22], [2, 3, 7], [4, 5, 6]]
def tab77 : List (List Nat) := [[0, 1, 2, 3], [0, 1, 2, 3, 9], [8], [0, 1, 3, 15], [8], [1, 3, 21], [8], [8]]
def tab78 : List (List Nat) := [[0], [0, 14], [0], [2]]
def tab79 : List (List Nat) := [[0], [5, 6, 7], [5, 6, 7, 8], [3, 4, 5, 6, 7], [3, 4, 5, 6, 7, 13], [2], [5, 6, 7], [2]]
def tab80 : List (List Nat) := [[0, 1], [0, 1, 13], [4], [1, 5], [1, 5, 6], [1, 5, 6, 21, 22, 23], [1, 5, 6, 21, 22, 23, 24], [1, 5, 6, 7, 8, 21, 22, 23], [1, 5, 6, 7, 8, 21, 22, 23, 32], [1, 5, 6, 8, 21, 22, 23], [1, 5, 6, 21, 22, 23], [1, 5, 6, 21, 22, 23], [4]]
def tab81 : List (List Nat) := [[0, 2], [0, 2, 6], [2, 3], [2, 3]]
def tab82 : List (List Nat) := [[0, 1], [0, 1, 10], [4], [0, 1, 5], [0, 1, 5, 14], [0, 1, 5], [0, 1, 5, 25], [4], [4]]
def tab83 : List (List Nat) := [[0, 1], [0, 1, 5], [0, 1, 5, 9], [0, 1, 5], [0, 1, 5], [0, 1, 5], [4]]
def tab84 : List (List Nat) := [[0, 1], [0, 1, 5], [0, 1, 5, 9], [0, 1, 5], [0, 1, 5, 17], [4], [0, 1, 5], [4]]
def tab85 : List (List Nat) := [[0, 2], [0, 2, 3], [0, 2, 3, 5], [0, 2, 3], [0, 2, 3], [2]]
def tab86 : List (List Nat) := [[1, 2, 4], [1, 2, 4, 6], [1, 2, 4, 6, 7], [1, 2, 4, 6, 7, 8], [1, 2, 4, 6, 7, 8, 19], [1, 2, 4, 6, 7, 8], [1, 2, 4, 6, 8, 9], [1, 2, 4, 6, 8, 9], [1, 2, 4, 6, 7, 8], [4, 5]]
def tab87 : List (List Nat) := [[0, 1], [4]]
def tab88 : List (List Nat) := [[1, 2], [3]]
def tab89 : List (List Nat) := [[1], [2]]
def tab90 : List (List Nat) := [[0, 1], [0, 1, 13], [4], [4]]
def tab91 : List (List Nat) := [[0, 1], [0, 1, 11], [4], [0, 1, 5], [0, 1, 5, 6], [1, 5, 6, 21, 22, 23], [1, 5, 6, 21, 22, 23, 24], [1, 5, 6, 8, 21, 22, 23], [1, 5, 6, 21, 22, 23], [1, 5, 6, 21, 22, 23], [1, 5, 6, 21, 22, 23], [1, 5, 6, 21, 22, 23], [4]]
def tab92 : List (List Nat) := [[0, 1], [0, 1, 10], [4], [0, 1, 5], [0, 1, 5, 20], [0, 1, 5], [0, 1, 5, 31], [4], [4]]
def tab93 : List (List Nat) := [[0], [2], [2]]
def tab94 : List (List Nat) := [[0], [0, 4], [2], [2]]
def tab95 : List (List Nat) := [[0, 1], [0, 1, 7, 8], [0, 1, 7, 8, 9], [0, 1, 5, 7, 8], [0, 1, 5, 7, 8, 16], [4], [0, 1, 7, 8], [4]]
def tab96 : List (List Nat) := [[1], [2]]
def tab97 : List (List Nat) := [[0, 1], [0, 1, 5], [0, 1, 5, 6], [0, 1, 6, 11], [12], [4], [4], [0, 1, 13], [4], [0, 1, 16], [4], [19], [4], [4]]
def tab98 : List (List Nat) := [[0], [0, 4], [2], [2]]
def tab99 : List (List Nat) := [[0], [0, 4], [2], [2]]
def tab100 : List (List Nat) := [[0, 3], [4]]
def tab101 : List (List Nat) := [[0], [2]]
def tab102 : List (List Nat) := [[0], [2]]
def tab103 : List (List Nat) := [[0, 1], [4]]
def tab104 : List (List Nat) := [[0, 1], [3]]
def tab105 : List (List Nat) := [[0, 1], [0, 1, 7, 8], [0, 1, 7, 8, 9], [0, 1, 5, 7, 8], [0, 1, 5, 7, 8, 16], [4], [0, 1, 7, 8], [4]]
def tabs : Nat → List (List Nat)
  | 3 => tab3
  | 4 => tab4
  | 5 => tab5
  | 6 => tab6
  | 7 => tab7
  | 8 => tab8
  | 9 => tab9
  | 10 => tab10
  | 11 => tab11
  | 12 => tab12
  | 13 => tab13
  | 14 => tab14
  | 15 => tab15
  | 16 => tab16
  | 17 => tab17
  | 18 => tab18
  | 19 => tab19
  | 20 => tab20
  | 21 => tab21
  | 22 => tab22
  | 23 => tab23
  | 24 => tab24
  | 25 => tab25
  | 26 => tab26
  | 27 => tab27
  | 28 => tab28
  | 29 => tab29
  | 30 => tab30
  | 31 => tab31
  | 32 => tab32
  | 33 => tab33
  | 34 => tab34
  | 35 => tab35
  | 36 => tab36
  | 37 => tab37
  | 38 => tab38
  | 39 => tab39
  | 40 => tab40
  | 41 => tab41
  | 42 => tab42
  | 43 => tab43
  | 44 => tab44
  | 45 => tab45
  | 46 => tab46
  | 47 => tab47
  | 48 => tab48
  | 49 => tab49
  | 50 => tab50
  | 51 => tab51
  | 52 => tab52
  | 53 => tab53
  | 54 => tab54
  | 55 => tab55
  | 56 => tab56
  | 57 => tab57
  | 58 => tab58
  | 59 => tab59
  | 60 => tab60
  | 61 => tab61
  | 62 => tab62
  | 63 => tab63
  | 64 => tab64
  | 65 => tab65
  | 66 => tab66
  | 67 => tab67
  | 68 => tab68
  | 69 => tab69
  | 70 => tab70
  | 71 => tab71
  | 72 => tab72
  | 73 => tab73
  | 74 => tab74
  | 75 => tab75
  | 76 => tab76
  | 77 => tab77
  | 78 => tab78
  | 79 => tab79
  | 80 => tab80
  | 81 => tab81
  | 82 => tab82
  | 83 => tab83
  | 84 => tab84
  | 85 => tab85
  | 86 => tab86
  | 87 => tab87
  | 88 => tab88
  | 89 => tab89
  | 90 => tab90
  | 91 => tab91
  | 92 => tab92
  | 93 => tab93
  | 94 => tab94
  | 95 => tab95
  | 96 => tab96
  | 97 => tab97
  | 98 => tab98
  | 99 => tab99
  | 100 => tab100
  | 101 => tab101
  | 102 => tab102
  | 103 => tab103
  | 104 => tab104
  | 105 => tab105
  | _ => []
def impL : List Nat := [9, 21, 40, 62, 83]
def aliL : List Nat := [78]
def gcL : List Nat := [4, 5, 6, 7, 8, 10, 11, 12, 13, 14, 15, 16, 17, 18, 19, 20, 22, 23, 24, 25, 26, 27, 28, 29, 30, 31, 32, 33, 34, 35, 36, 37, 38, 39, 41, 42, 43, 44, 45, 46, 47, 48, 49, 50, 51, 52, 53, 54, 55, 56, 57, 58, 59, 60, 61, 63, 64, 65, 66, 67, 68, 69, 70, 71, 72, 73, 74, 75, 76, 77, 79, 80, 81, 82, 84, 85, 86, 87, 88, 89, 90, 91, 92, 93, 94, 95, 96, 97, 98, 99, 100, 101, 102, 103, 104, 105]
def ownL : List Nat := [3, 4, 5, 6, 7, 8, 9, 10, 11, 12, 13, 14, 15, 16, 17, 18, 19, 20, 21, 22, 23, 24, 25, 26, 27, 28, 29, 30, 31, 32, 33, 34, 35, 36, 37, 38, 39, 40, 41, 42, 43, 44, 45, 46, 47, 48, 49, 50, 51, 52, 53, 54, 55, 56, 57, 58, 59, 60, 61, 62, 63, 64, 65, 66, 67, 68, 69, 70, 71, 72, 73, 74, 75, 76, 77, 78, 79, 80, 81, 82, 83, 84, 85, 86, 87, 88, 89, 90, 91, 92, 93, 94, 95, 96, 97, 98, 99, 100, 101, 102, 103, 104, 105]
def globT0 : List V := [.int .u8 0, .int .u8 1, .int .u8 28, .int .u8 2, .int .u8 29, .int .u8 14, .int .u8 24, .int .u8 3, .int .u8 30, .int .u8 22, .int .u8 20, .int .u8 15, .int .u8 25, .int .u8 17, .int .u8 4, .int .u8 8, .int .u8 31, .int .u8 27, .int .u8 13, .int .u8 23, .int .u8 21, .int .u8 19, .int .u8 16, .int .u8 7, .int .u8 26, .int .u8 12, .int .u8 18, .int .u8 6, .int .u8 11, .int .u8 5, .int .u8 10, .int .u8 9]
def globT1 : List V := [.int .u8 0, .int .u8 1, .int .u8 56, .int .u8 2, .int .u8 57, .int .u8 49, .int .u8 28, .int .u8 3, .int .u8 61, .int .u8 58, .int .u8 42, .int .u8 50, .int .u8 38, .int .u8 29, .int .u8 17, .int .u8 4, .int .u8 62, .int .u8 47, .int .u8 59, .int .u8 36, .int .u8 45, .int .u8 43, .int .u8 51, .int .u8 22, .int .u8 53, .int .u8 39, .int .u8 33, .int .u8 30, .int .u8 24, .int .u8 18, .int .u8 12, .int .u8 5, .int .u8 63, .int .u8 55, .int .u8 48, .int .u8 27, .int .u8 60, .int .u8 41, .int .u8 37, .int .u8 16, .int .u8 46, .int .u8 35, .int .u8 44, .int .u8 21, .int .u8 52, .int .u8 32, .int .u8 23, .int .u8 11, .int .u8 54, .int .u8 26, .int .u8 40, .int .u8 15, .int .u8 34, .int .u8 20, .int .u8 31, .int .u8 10, .int .u8 25, .int .u8 14, .int .u8 19, .int .u8 9, .int .u8 13, .int .u8 8, .int .u8 7, .int .u8 6]
def cf : Cfg where
  pure := fun f => !impL.contains f
  keep := fun f r => (tabs f).getD r []
  pack := fun f => if f = 94 then .pack [.i64] else if ownL.contains f then .whole else .no
  clone := fun f => match f with
    | 94 => some .i64
    | _ => none
  glob := fun g => match g with
    | 0 => some (.ptr 0 0)
    | 1 => some (.ptr 1 0)
    | _ => none
  rounds := 4294967296
  wary := fun f => match f with
    | 45 => true
    | _ => false
def nil34 (t : Nat) : Option NK := if t = 6 then some (.s 3) else none
def nil55 (t : Nat) : Option NK := if t = 4 then some (.i .i64) else none
def nil72 (t : Nat) : Option NK := if t = 2 then some (.i .i64) else none
def nil76 (t : Nat) : Option NK := if t = 4 then some (.i .i64) else if t = 5 then some (.i .i64) else none
def nil78 (t : Nat) : Option NK := if t = 2 then some (.i .i64) else none
def nil80 (t : Nat) : Option NK := if t = 4 then some (.i .i64) else none
def nil85 (t : Nat) : Option NK := if t = 3 then some (.i .i64) else none
def nil91 (t : Nat) : Option NK := if t = 4 then some (.i .i64) else none
def nil94 (t : Nat) : Option NK := if t = 2 then some (.i .i64) else none
def kn : Kn where
  cf := cf
  out := fun f => match f with
    | 3 => .frz []
    | 4 => .frz []
    | 5 => .frz [[none, some (.i .i64), none, none, some (.i .i64)]]
    | 6 => .own [[none, some (.i .i64), none, none, some (.i .i64)]]
    | 7 => .own [[none, some (.i .i64), none, none, some (.i .i64)]]
    | 8 => .frz []
    | 9 => .inl
    | 10 => .frz []
    | 11 => .frz []
    | 12 => .frz []
    | 13 => .frz [[none, some (.i .i64), none, none, some (.i .i64)]]
    | 14 => .frz [[none, some (.i .i64), none, none, some (.i .i64)]]
    | 15 => .own [[none, some (.i .i64)]]
    | 16 => .frz []
    | 17 => .frz [[none, some (.i .i64), none, none, some (.i .i64)]]
    | 18 => .frz [[none, some (.i .i64), none, none, some (.i .i64)]]
    | 19 => .own [[none, some (.i .i64), none, none, some (.i .i64)]]
    | 20 => .frz []
    | 21 => .inl
    | 22 => .frz []
    | 23 => .frz []
    | 24 => .frz []
    | 25 => .frz []
    | 26 => .frz [[none, some (.i .i64)]]
    | 27 => .frz [[none, some (.i .i64)]]
    | 28 => .frz [[none, some (.i .i64)]]
    | 29 => .frz [[none, some (.i .i64)]]
    | 30 => .own [[none, some (.i .i64)]]
    | 31 => .frz []
    | 32 => .frz []
    | 33 => .frz [[none, some (.i .i64)]]
    | 34 => .frz [[some (.s 3)]]
    | 35 => .frz [[none, some (.i .i64)]]
    | 36 => .frz [[none, some (.i .i64)]]
    | 37 => .frz [[none, some (.i .i64)]]
    | 38 => .own [[none, some (.i .i64)]]
    | 39 => .frz []
    | 40 => .inl
    | 41 => .frz []
    | 42 => .frz []
    | 43 => .frz []
    | 44 => .frz []
    | 45 => .frz [[none, some (.i .i64)], [none, some (.i .i64)]]
    | 46 => .frz []
    | 47 => .frz [[none, some (.i .i64)]]
    | 48 => .frz [[none, some (.i .i64)]]
    | 49 => .frz [[none, some (.i .i64)]]
    | 50 => .own [[some (.i .i64)]]
    | 51 => .frz []
    | 52 => .frz []
    | 53 => .frz []
    | 54 => .frz []
    | 55 => .own [[some (.i .i64)]]
    | 56 => .frz [[none, some (.i .i64)]]
    | 57 => .frz [[none, some (.i .i64)]]
    | 58 => .frz [[none, some (.i .i64)]]
    | 59 => .own [[none, some (.i .i64)]]
    | 60 => .frz []
    | 61 => .frz []
    | 62 => .inl
    | 63 => .frz []
    | 64 => .frz []
    | 65 => .frz []
    | 66 => .frz [[some (.i .i64)]]
    | 67 => .frz []
    | 68 => .own [[some (.i .i64)]]
    | 69 => .frz []
    | 70 => .frz [[some (.i .i64)]]
    | 71 => .frz [[some (.i .i64)]]
    | 72 => .own [[some (.i .i64)]]
    | 73 => .frz []
    | 74 => .frz []
    | 75 => .frz []
    | 76 => .frz [[some (.i .i64)], [some (.i .i64)]]
    | 77 => .frz []
    | 78 => .inl
    | 79 => .frz []
    | 80 => .own [[some (.i .i64)]]
    | 81 => .own [[some (.i .i64)]]
    | 82 => .frz []
    | 83 => .inl
    | 84 => .frz []
    | 85 => .own [[some (.i .i64)]]
    | 86 => .frz [[some (.i .i64)]]
    | 87 => .frz []
    | 88 => .frz []
    | 89 => .frz []
    | 90 => .frz []
    | 91 => .own [[some (.i .i64)]]
    | 92 => .frz []
    | 93 => .frz []
    | 94 => .own [[some (.i .i64)]]
    | 95 => .frz []
    | 96 => .frz []
    | 97 => .frz []
    | 98 => .frz []
    | 99 => .frz []
    | 100 => .frz []
    | 101 => .frz []
    | 102 => .frz []
    | 103 => .frz []
    | 104 => .frz []
    | 105 => .frz []
    | _ => .inl
  args := fun f => match f with
    | 3 => [[none, some (.i .i64), none, none, some (.i .i64)], [none, some (.i .i64), none, none, some (.i .i64)]]
    | 4 => [[none, some (.i .i64), none, none, some (.i .i64)]]
    | 5 => [[none, some (.i .i64), none, none, some (.i .i64)], [none, some (.i .i64), none, none, some (.i .i64)]]
    | 6 => [[none, some (.i .i64), none, none, some (.i .i64)]]
    | 7 => [[none, some (.i .i64), none, none, some (.i .i64)], [none, some (.i .i64), none, none, some (.i .i64)]]
    | 8 => [[none, some (.i .i64), none, none, some (.i .i64)], [none, some (.i .i64), none, none, some (.i .i64)]]
    | 10 => [[none, some (.i .i64), none, none, some (.i .i64)]]
    | 11 => [[none, some (.i .i64)]]
    | 12 => [[none, some (.i .i64), none, none, some (.i .i64)]]
    | 13 => [[none, some (.i .i64), none, none, some (.i .i64)]]
    | 14 => [[none, some (.i .i64), none, none, some (.i .i64)], [none, some (.i .i64), none, none, some (.i .i64)]]
    | 15 => [[none, some (.i .i64)]]
    | 16 => [[some (.s 6)]]
    | 17 => [[none, some (.i .i64), none, none, some (.i .i64)]]
    | 18 => [[none, some (.i .i64), none, none, some (.i .i64)], [none, some (.i .i64), none, none, some (.i .i64)]]
    | 19 => [[none, some (.i .i64), none, none, some (.i .i64)]]
    | 20 => [[none, some (.i .i64)], [none, some (.i .i64)]]
    | 22 => [[none, some (.i .i64)]]
    | 23 => [[none, some (.i .i64)]]
    | 24 => [[none, some (.i .i64)]]
    | 25 => [[none, some (.i .i64)], [none, some (.i .i64)]]
    | 26 => [[none, some (.i .i64)]]
    | 27 => [[none, some (.i .i64)], [none, some (.i .i64)]]
    | 28 => [[none, some (.i .i64)], [none, some (.i .i64)]]
    | 29 => [[none, some (.i .i64)], [none, some (.i .i64)]]
    | 30 => [[none, some (.i .i64)]]
    | 31 => [[some (.s 6)]]
    | 32 => [[none, some (.i .i64), none, none, some (.i .i64)]]
    | 33 => [[none, some (.i .i64)]]
    | 34 => [[none, some (.i .i64), none, none, some (.i .i64)], [none, some (.i .i64), none, none, some (.i .i64)]]
    | 35 => [[none, some (.i .i64)], [none, some (.i .i64)]]
    | 36 => [[some (.s 3)]]
    | 37 => [[some (.s 3)]]
    | 38 => [[none, some (.i .i64)]]
    | 39 => [[none, some (.i .i64)], [none, some (.i .i64)]]
    | 41 => [[none, some (.i .i64)]]
    | 42 => [[some (.i .i64)]]
    | 43 => [[none, some (.i .i64)]]
    | 44 => [[some (.i .i64)]]
    | 45 => [[none, some (.i .i64)], [none, some (.i .i64)]]
    | 46 => [[none, some (.i .i64)], [none, some (.i .i64)]]
    | 47 => [[], [some (.i .i64)]]
    | 48 => [[none, some (.i .i64)]]
    | 49 => [[none, some (.i .i64)], [none, some (.i .i64)]]
    | 50 => [[some (.i .i64)]]
    | 51 => [[some (.s 6)]]
    | 52 => [[none, some (.i .i64), none, none, some (.i .i64)]]
    | 53 => [[some (.s 3)]]
    | 54 => [[none, some (.i .i64)], [none, some (.i .i64)]]
    | 55 => [[some (.i .i64)], [some (.i .i64)]]
    | 56 => [[some (.s 3)]]
    | 57 => [[some (.s 3)]]
    | 58 => [[none, some (.i .i64)]]
    | 59 => [[], [some (.i .i64)]]
    | 61 => [[some (.i .i64)], [some (.i .i64)]]
    | 63 => [[some (.i .i64)]]
    | 64 => [[some (.i .i64)]]
    | 65 => [[some (.i .i64)]]
    | 66 => [[some (.i .i64)]]
    | 67 => [[some (.i .i64)], [some (.i .i64)]]
    | 68 => [[some (.i .i64)]]
    | 69 => [[some (.i .i64)]]
    | 70 => [[some (.i .i64)]]
    | 71 => [[some (.i .i64)], [some (.i .i64)]]
    | 72 => [[some (.i .i64)]]
    | 73 => [[some (.s 6)]]
    | 74 => [[some (.s 3)]]
    | 75 => [[none, some (.i .i64)]]
    | 76 => [[none, some (.i .i64)], [none, some (.i .i64)]]
    | 77 => [[], [some (.i .i64)], [], [some (.i .i64)]]
    | 78 => [[some (.i .i64)]]
    | 79 => [[some (.i .i64)]]
    | 80 => [[some (.i .i64)]]
    | 81 => [[some (.i .i64)]]
    | 82 => [[some (.i .i64)], [some (.i .i64)]]
    | 84 => [[some (.i .i64)]]
    | 86 => [[some (.i .i64)]]
    | 87 => [[some (.s 3)]]
    | 88 => [[none, some (.i .i64)]]
    | 89 => [[none, some (.i .i64)]]
    | 90 => [[some (.i .i64)]]
    | 91 => [[some (.i .i64)]]
    | 92 => [[some (.i .i64)], [some (.i .i64)]]
    | 94 => [[some (.i .i64)]]
    | 95 => [[some (.s 3)]]
    | 96 => [[some (.i .i64)]]
    | 100 => [[some (.i .i64)]]
    | 103 => [[some (.i .i64)]]
    | 105 => [[some (.i .i64)]]
    | _ => []
  nils := fun f => match f with
    | 34 => nil34
    | 55 => nil55
    | 72 => nil72
    | 76 => nil76
    | 78 => nil78
    | 80 => nil80
    | 85 => nil85
    | 91 => nil91
    | 94 => nil94
    | _ => fun _ => none
  gc := fun f => gcL.contains f
  ali := fun f => aliL.contains f
  glob := fun g => match g with
    | 0 => some (.fptr globT0)
    | 1 => some (.fptr globT1)
    | _ => none
@[simp] theorem k_cf : kn.cf = cf := rfl
/-! 3: laws.FnExactIvMul -/
@[simp] theorem c_keep3 (r : Nat) : cf.keep 3 r = tab3.getD r [] := rfl
@[simp] theorem c_pure3 : cf.pure 3 = true := rfl
@[simp] theorem c_pack3 : cf.pack 3 = .whole := rfl
@[simp] theorem c_wary3 : cf.wary 3 = false := rfl
@[simp] theorem c_clone3 : cf.clone 3 = none := rfl
@[simp] theorem k_out3 : kn.out 3 = .frz [] := rfl
@[simp] theorem k_args3 : kn.args 3 = [[none, some (.i .i64), none, none, some (.i .i64)], [none, some (.i .i64), none, none, some (.i .i64)]] := rfl
@[simp] theorem k_nils3 : kn.nils 3 = fun _ => none := rfl
@[simp] theorem k_gc3 : kn.gc 3 = false := rfl
@[simp] theorem k_ali3 : kn.ali 3 = false := rfl
/-! 4: laws.szIv -/
@[simp] theorem c_keep4 (r : Nat) : cf.keep 4 r = tab4.getD r [] := rfl
@[simp] theorem c_pure4 : cf.pure 4 = true := rfl
@[simp] theorem c_pack4 : cf.pack 4 = .whole := rfl
@[simp] theorem c_wary4 : cf.wary 4 = false := rfl
@[simp] theorem c_clone4 : cf.clone 4 = none := rfl
@[simp] theorem k_out4 : kn.out 4 = .frz [] := rfl
@[simp] theorem k_args4 : kn.args 4 = [[none, some (.i .i64), none, none, some (.i .i64)]] := rfl
@[simp] theorem k_nils4 : kn.nils 4 = fun _ => none := rfl
@[simp] theorem k_gc4 : kn.gc 4 = true := rfl
@[simp] theorem k_ali4 : kn.ali 4 = false := rfl
/-! 5: spec.IvMul -/
@[simp] theorem c_keep5 (r : Nat) : cf.keep 5 r = tab5.getD r [] := rfl
@[simp] theorem c_pure5 : cf.pure 5 = true := rfl
@[simp] theorem c_pack5 : cf.pack 5 = .whole := rfl
@[simp] theorem c_wary5 : cf.wary 5 = false := rfl
@[simp] theorem c_clone5 : cf.clone 5 = none := rfl
@[simp] theorem k_out5 : kn.out 5 = .frz [[none, some (.i .i64), none, none, some (.i .i64)]] := rfl
@[simp] theorem k_args5 : kn.args 5 = [[none, some (.i .i64), none, none, some (.i .i64)], [none, some (.i .i64), none, none, some (.i .i64)]] := rfl
@[simp] theorem k_nils5 : kn.nils 5 = fun _ => none := rfl
@[simp] theorem k_gc5 : kn.gc 5 = true := rfl
@[simp] theorem k_ali5 : kn.ali 5 = false := rfl
/-! 6: laws.toIv -/
@[simp] theorem c_keep6 (r : Nat) : cf.keep 6 r = tab6.getD r [] := rfl
@[simp] theorem c_pure6 : cf.pure 6 = true := rfl
@[simp] theorem c_pack6 : cf.pack 6 = .whole := rfl
@[simp] theorem c_wary6 : cf.wary 6 = false := rfl
@[simp] theorem c_clone6 : cf.clone 6 = none := rfl
@[simp] theorem k_out6 : kn.out 6 = .own [[none, some (.i .i64), none, none, some (.i .i64)]] := rfl
@[simp] theorem k_args6 : kn.args 6 = [[none, some (.i .i64), none, none, some (.i .i64)]] := rfl
@[simp] theorem k_nils6 : kn.nils 6 = fun _ => none := rfl
@[simp] theorem k_gc6 : kn.gc 6 = true := rfl
@[simp] theorem k_ali6 : kn.ali 6 = false := rfl
/-! 7: impl.IvMul -/
@[simp] theorem c_keep7 (r : Nat) : cf.keep 7 r = tab7.getD r [] := rfl
@[simp] theorem c_pure7 : cf.pure 7 = true := rfl
@[simp] theorem c_pack7 : cf.pack 7 = .whole := rfl
@[simp] theorem c_wary7 : cf.wary 7 = false := rfl
@[simp] theorem c_clone7 : cf.clone 7 = none := rfl
@[simp] theorem k_out7 : kn.out 7 = .own [[none, some (.i .i64), none, none, some (.i .i64)]] := rfl
@[simp] theorem k_args7 : kn.args 7 = [[none, some (.i .i64), none, none, some (.i .i64)], [none, some (.i .i64), none, none, some (.i .i64)]] := rfl
@[simp] theorem k_nils7 : kn.nils 7 = fun _ => none := rfl
@[simp] theorem k_gc7 : kn.gc 7 = true := rfl
@[simp] theorem k_ali7 : kn.ali 7 = false := rfl
/-! 8: laws.eqIv -/
@[simp] theorem c_keep8 (r : Nat) : cf.keep 8 r = tab8.getD r [] := rfl
@[simp] theorem c_pure8 : cf.pure 8 = true := rfl
@[simp] theorem c_pack8 : cf.pack 8 = .whole := rfl
@[simp] theorem c_wary8 : cf.wary 8 = false := rfl
@[simp] theorem c_clone8 : cf.clone 8 = none := rfl
@[simp] theorem k_out8 : kn.out 8 = .frz [] := rfl
@[simp] theorem k_args8 : kn.args 8 = [[none, some (.i .i64), none, none, some (.i .i64)], [none, some (.i .i64), none, none, some (.i .i64)]] := rfl
@[simp] theorem k_nils8 : kn.nils 8 = fun _ => none := rfl
@[simp] theorem k_gc8 : kn.gc 8 = true := rfl
@[simp] theorem k_ali8 : kn.ali 8 = false := rfl
/-! 9: laws.markIv -/
@[simp] theorem c_keep9 (r : Nat) : cf.keep 9 r = tab9.getD r [] := rfl
@[simp] theorem c_pure9 : cf.pure 9 = false := rfl
@[simp] theorem c_pack9 : cf.pack 9 = .whole := rfl
@[simp] theorem c_wary9 : cf.wary 9 = false := rfl
@[simp] theorem c_clone9 : cf.clone 9 = none := rfl
@[simp] theorem k_out9 : kn.out 9 = .inl := rfl
@[simp] theorem k_args9 : kn.args 9 = [] := rfl
@[simp] theorem k_nils9 : kn.nils 9 = fun _ => none := rfl
@[simp] theorem k_gc9 : kn.gc 9 = false := rfl
@[simp] theorem k_ali9 : kn.ali 9 = false := rfl
/-! 10: laws.heldIv -/
@[simp] theorem c_keep10 (r : Nat) : cf.keep 10 r = tab10.getD r [] := rfl
@[simp] theorem c_pure10 : cf.pure 10 = true := rfl
@[simp] theorem c_pack10 : cf.pack 10 = .whole := rfl
@[simp] theorem c_wary10 : cf.wary 10 = false := rfl
@[simp] theorem c_clone10 : cf.clone 10 = none := rfl
@[simp] theorem k_out10 : kn.out 10 = .frz [] := rfl
@[simp] theorem k_args10 : kn.args 10 = [[none, some (.i .i64), none, none, some (.i .i64)]] := rfl
@[simp] theorem k_nils10 : kn.nils 10 = fun _ => none := rfl
@[simp] theorem k_gc10 : kn.gc 10 = true := rfl
@[simp] theorem k_ali10 : kn.ali 10 = false := rfl
/-! 11: laws.szDy -/
@[simp] theorem c_keep11 (r : Nat) : cf.keep 11 r = tab11.getD r [] := rfl
@[simp] theorem c_pure11 : cf.pure 11 = true := rfl
@[simp] theorem c_pack11 : cf.pack 11 = .whole := rfl
@[simp] theorem c_wary11 : cf.wary 11 = false := rfl
@[simp] theorem c_clone11 : cf.clone 11 = none := rfl
@[simp] theorem k_out11 : kn.out 11 = .frz [] := rfl
@[simp] theorem k_args11 : kn.args 11 = [[none, some (.i .i64)]] := rfl
@[simp] theorem k_nils11 : kn.nils 11 = fun _ => none := rfl
@[simp] theorem k_gc11 : kn.gc 11 = true := rfl
@[simp] theorem k_ali11 : kn.ali 11 = false := rfl
/-! 12: spec.IvOk -/
@[simp] theorem c_keep12 (r : Nat) : cf.keep 12 r = tab12.getD r [] := rfl
@[simp] theorem c_pure12 : cf.pure 12 = true := rfl
@[simp] theorem c_pack12 : cf.pack 12 = .whole := rfl
@[simp] theorem c_wary12 : cf.wary 12 = false := rfl
@[simp] theorem c_clone12 : cf.clone 12 = none := rfl
@[simp] theorem k_out12 : kn.out 12 = .frz [] := rfl
@[simp] theorem k_args12 : kn.args 12 = [[none, some (.i .i64), none, none, some (.i .i64)]] := rfl
@[simp] theorem k_nils12 : kn.nils 12 = fun _ => none := rfl
@[simp] theorem k_gc12 : kn.gc 12 = true := rfl
@[simp] theorem k_ali12 : kn.ali 12 = false := rfl
/-! 13: spec.l7fits -/
@[simp] theorem c_keep13 (r : Nat) : cf.keep 13 r = tab13.getD r [] := rfl
@[simp] theorem c_pure13 : cf.pure 13 = true := rfl
@[simp] theorem c_pack13 : cf.pack 13 = .whole := rfl
@[simp] theorem c_wary13 : cf.wary 13 = false := rfl
@[simp] theorem c_clone13 : cf.clone 13 = none := rfl
@[simp] theorem k_out13 : kn.out 13 = .frz [[none, some (.i .i64), none, none, some (.i .i64)]] := rfl
@[simp] theorem k_args13 : kn.args 13 = [[none, some (.i .i64), none, none, some (.i .i64)]] := rfl
@[simp] theorem k_nils13 : kn.nils 13 = fun _ => none := rfl
@[simp] theorem k_gc13 : kn.gc 13 = true := rfl
@[simp] theorem k_ali13 : kn.ali 13 = false := rfl
/-! 14: spec.l7mul -/
@[simp] theorem c_keep14 (r : Nat) : cf.keep 14 r = tab14.getD r [] := rfl
@[simp] theorem c_pure14 : cf.pure 14 = true := rfl
@[simp] theorem c_pack14 : cf.pack 14 = .whole := rfl
@[simp] theorem c_wary14 : cf.wary 14 = false := rfl
@[simp] theorem c_clone14 : cf.clone 14 = none := rfl
@[simp] theorem k_out14 : kn.out 14 = .frz [[none, some (.i .i64), none, none, some (.i .i64)]] := rfl
@[simp] theorem k_args14 : kn.args 14 = [[none, some (.i .i64), none, none, some (.i .i64)], [none, some (.i .i64), none, none, some (.i .i64)]] := rfl
@[simp] theorem k_nils14 : kn.nils 14 = fun _ => none := rfl
@[simp] theorem k_gc14 : kn.gc 14 = true := rfl
@[simp] theorem k_ali14 : kn.ali 14 = false := rfl
/-! 15: laws.toDy -/
@[simp] theorem c_keep15 (r : Nat) : cf.keep 15 r = tab15.getD r [] := rfl
@[simp] theorem c_pure15 : cf.pure 15 = true := rfl
@[simp] theorem c_pack15 : cf.pack 15 = .whole := rfl
@[simp] theorem c_wary15 : cf.wary 15 = false := rfl
@[simp] theorem c_clone15 : cf.clone 15 = none := rfl
@[simp] theorem k_out15 : kn.out 15 = .own [[none, some (.i .i64)]] := rfl
@[simp] theorem k_args15 : kn.args 15 = [[none, some (.i .i64)]] := rfl
@[simp] theorem k_nils15 : kn.nils 15 = fun _ => none := rfl
@[simp] theorem k_gc15 : kn.gc 15 = true := rfl
@[simp] theorem k_ali15 : kn.ali 15 = false := rfl
/-! 16: impl.areIvs -/
@[simp] theorem c_keep16 (r : Nat) : cf.keep 16 r = tab16.getD r [] := rfl
@[simp] theorem c_pure16 : cf.pure 16 = true := rfl
@[simp] theorem c_pack16 : cf.pack 16 = .whole := rfl
@[simp] theorem c_wary16 : cf.wary 16 = false := rfl
@[simp] theorem c_clone16 : cf.clone 16 = none := rfl
@[simp] theorem k_out16 : kn.out 16 = .frz [] := rfl
@[simp] theorem k_args16 : kn.args 16 = [[some (.s 6)]] := rfl
@[simp] theorem k_nils16 : kn.nils 16 = fun _ => none := rfl
@[simp] theorem k_gc16 : kn.gc 16 = true := rfl
@[simp] theorem k_ali16 : kn.ali 16 = false := rfl
/-! 17: (impl.Iv).span -/
@[simp] theorem c_keep17 (r : Nat) : cf.keep 17 r = tab17.getD r [] := rfl
@[simp] theorem c_pure17 : cf.pure 17 = true := rfl
@[simp] theorem c_pack17 : cf.pack 17 = .whole := rfl
@[simp] theorem c_wary17 : cf.wary 17 = false := rfl
@[simp] theorem c_clone17 : cf.clone 17 = none := rfl
@[simp] theorem k_out17 : kn.out 17 = .frz [[none, some (.i .i64), none, none, some (.i .i64)]] := rfl
@[simp] theorem k_args17 : kn.args 17 = [[none, some (.i .i64), none, none, some (.i .i64)]] := rfl
@[simp] theorem k_nils17 : kn.nils 17 = fun _ => none := rfl
@[simp] theorem k_gc17 : kn.gc 17 = true := rfl
@[simp] theorem k_ali17 : kn.ali 17 = false := rfl
/-! 18: (impl.span).times -/
@[simp] theorem c_keep18 (r : Nat) : cf.keep 18 r = tab18.getD r [] := rfl
@[simp] theorem c_pure18 : cf.pure 18 = true := rfl
@[simp] theorem c_pack18 : cf.pack 18 = .whole := rfl
@[simp] theorem c_wary18 : cf.wary 18 = false := rfl
@[simp] theorem c_clone18 : cf.clone 18 = none := rfl
@[simp] theorem k_out18 : kn.out 18 = .frz [[none, some (.i .i64), none, none, some (.i .i64)]] := rfl
@[simp] theorem k_args18 : kn.args 18 = [[none, some (.i .i64), none, none, some (.i .i64)], [none, some (.i .i64), none, none, some (.i .i64)]] := rfl
@[simp] theorem k_nils18 : kn.nils 18 = fun _ => none := rfl
@[simp] theorem k_gc18 : kn.gc 18 = true := rfl
@[simp] theorem k_ali18 : kn.ali 18 = false := rfl
/-! 19: (impl.span).iv -/
@[simp] theorem c_keep19 (r : Nat) : cf.keep 19 r = tab19.getD r [] := rfl
@[simp] theorem c_pure19 : cf.pure 19 = true := rfl
@[simp] theorem c_pack19 : cf.pack 19 = .whole := rfl
@[simp] theorem c_wary19 : cf.wary 19 = false := rfl
@[simp] theorem c_clone19 : cf.clone 19 = none := rfl
@[simp] theorem k_out19 : kn.out 19 = .own [[none, some (.i .i64), none, none, some (.i .i64)]] := rfl
@[simp] theorem k_args19 : kn.args 19 = [[none, some (.i .i64), none, none, some (.i .i64)]] := rfl
@[simp] theorem k_nils19 : kn.nils 19 = fun _ => none := rfl
@[simp] theorem k_gc19 : kn.gc 19 = true := rfl
@[simp] theorem k_ali19 : kn.ali 19 = false := rfl
/-! 20: laws.eqDy -/
@[simp] theorem c_keep20 (r : Nat) : cf.keep 20 r = tab20.getD r [] := rfl
@[simp] theorem c_pure20 : cf.pure 20 = true := rfl
@[simp] theorem c_pack20 : cf.pack 20 = .whole := rfl
@[simp] theorem c_wary20 : cf.wary 20 = false := rfl
@[simp] theorem c_clone20 : cf.clone 20 = none := rfl
@[simp] theorem k_out20 : kn.out 20 = .frz [] := rfl
@[simp] theorem k_args20 : kn.args 20 = [[none, some (.i .i64)], [none, some (.i .i64)]] := rfl
@[simp] theorem k_nils20 : kn.nils 20 = fun _ => none := rfl
@[simp] theorem k_gc20 : kn.gc 20 = true := rfl
@[simp] theorem k_ali20 : kn.ali 20 = false := rfl
/-! 21: laws.markDy -/
@[simp] theorem c_keep21 (r : Nat) : cf.keep 21 r = tab21.getD r [] := rfl
@[simp] theorem c_pure21 : cf.pure 21 = false := rfl
@[simp] theorem c_pack21 : cf.pack 21 = .whole := rfl
@[simp] theorem c_wary21 : cf.wary 21 = false := rfl
@[simp] theorem c_clone21 : cf.clone 21 = none := rfl
@[simp] theorem k_out21 : kn.out 21 = .inl := rfl
@[simp] theorem k_args21 : kn.args 21 = [] := rfl
@[simp] theorem k_nils21 : kn.nils 21 = fun _ => none := rfl
@[simp] theorem k_gc21 : kn.gc 21 = false := rfl
@[simp] theorem k_ali21 : kn.ali 21 = false := rfl
/-! 22: laws.heldDy -/
@[simp] theorem c_keep22 (r : Nat) : cf.keep 22 r = tab22.getD r [] := rfl
@[simp] theorem c_pure22 : cf.pure 22 = true := rfl
@[simp] theorem c_pack22 : cf.pack 22 = .whole := rfl
@[simp] theorem c_wary22 : cf.wary 22 = false := rfl
@[simp] theorem c_clone22 : cf.clone 22 = none := rfl
@[simp] theorem k_out22 : kn.out 22 = .frz [] := rfl
@[simp] theorem k_args22 : kn.args 22 = [[none, some (.i .i64)]] := rfl
@[simp] theorem k_nils22 : kn.nils 22 = fun _ => none := rfl
@[simp] theorem k_gc22 : kn.gc 22 = true := rfl
@[simp] theorem k_ali22 : kn.ali 22 = false := rfl
/-! 23: laws.szWhole -/
@[simp] theorem c_keep23 (r : Nat) : cf.keep 23 r = tab23.getD r [] := rfl
@[simp] theorem c_pure23 : cf.pure 23 = true := rfl
@[simp] theorem c_pack23 : cf.pack 23 = .whole := rfl
@[simp] theorem c_wary23 : cf.wary 23 = false := rfl
@[simp] theorem c_clone23 : cf.clone 23 = none := rfl
@[simp] theorem k_out23 : kn.out 23 = .frz [] := rfl
@[simp] theorem k_args23 : kn.args 23 = [[none, some (.i .i64)]] := rfl
@[simp] theorem k_nils23 : kn.nils 23 = fun _ => none := rfl
@[simp] theorem k_gc23 : kn.gc 23 = true := rfl
@[simp] theorem k_ali23 : kn.ali 23 = false := rfl
/-! 24: spec.DyOk -/
@[simp] theorem c_keep24 (r : Nat) : cf.keep 24 r = tab24.getD r [] := rfl
@[simp] theorem c_pure24 : cf.pure 24 = true := rfl
@[simp] theorem c_pack24 : cf.pack 24 = .whole := rfl
@[simp] theorem c_wary24 : cf.wary 24 = false := rfl
@[simp] theorem c_clone24 : cf.clone 24 = none := rfl
@[simp] theorem k_out24 : kn.out 24 = .frz [] := rfl
@[simp] theorem k_args24 : kn.args 24 = [[none, some (.i .i64)]] := rfl
@[simp] theorem k_nils24 : kn.nils 24 = fun _ => none := rfl
@[simp] theorem k_gc24 : kn.gc 24 = true := rfl
@[simp] theorem k_ali24 : kn.ali 24 = false := rfl
/-! 25: spec.l4cmp -/
@[simp] theorem c_keep25 (r : Nat) : cf.keep 25 r = tab25.getD r [] := rfl
@[simp] theorem c_pure25 : cf.pure 25 = true := rfl
@[simp] theorem c_pack25 : cf.pack 25 = .whole := rfl
@[simp] theorem c_wary25 : cf.wary 25 = false := rfl
@[simp] theorem c_clone25 : cf.clone 25 = none := rfl
@[simp] theorem k_out25 : kn.out 25 = .frz [] := rfl
@[simp] theorem k_args25 : kn.args 25 = [[none, some (.i .i64)], [none, some (.i .i64)]] := rfl
@[simp] theorem k_nils25 : kn.nils 25 = fun _ => none := rfl
@[simp] theorem k_gc25 : kn.gc 25 = true := rfl
@[simp] theorem k_ali25 : kn.ali 25 = false := rfl
/-! 26: spec.l7own -/
@[simp] theorem c_keep26 (r : Nat) : cf.keep 26 r = tab26.getD r [] := rfl
@[simp] theorem c_pure26 : cf.pure 26 = true := rfl
@[simp] theorem c_pack26 : cf.pack 26 = .whole := rfl
@[simp] theorem c_wary26 : cf.wary 26 = false := rfl
@[simp] theorem c_clone26 : cf.clone 26 = none := rfl
@[simp] theorem k_out26 : kn.out 26 = .frz [[none, some (.i .i64)]] := rfl
@[simp] theorem k_args26 : kn.args 26 = [[none, some (.i .i64)]] := rfl
@[simp] theorem k_nils26 : kn.nils 26 = fun _ => none := rfl
@[simp] theorem k_gc26 : kn.gc 26 = true := rfl
@[simp] theorem k_ali26 : kn.ali 26 = false := rfl
/-! 27: spec.l4mul -/
@[simp] theorem c_keep27 (r : Nat) : cf.keep 27 r = tab27.getD r [] := rfl
@[simp] theorem c_pure27 : cf.pure 27 = true := rfl
@[simp] theorem c_pack27 : cf.pack 27 = .whole := rfl
@[simp] theorem c_wary27 : cf.wary 27 = false := rfl
@[simp] theorem c_clone27 : cf.clone 27 = none := rfl
@[simp] theorem k_out27 : kn.out 27 = .frz [[none, some (.i .i64)]] := rfl
@[simp] theorem k_args27 : kn.args 27 = [[none, some (.i .i64)], [none, some (.i .i64)]] := rfl
@[simp] theorem k_nils27 : kn.nils 27 = fun _ => none := rfl
@[simp] theorem k_gc27 : kn.gc 27 = true := rfl
@[simp] theorem k_ali27 : kn.ali 27 = false := rfl
/-! 28: spec.l7less -/
@[simp] theorem c_keep28 (r : Nat) : cf.keep 28 r = tab28.getD r [] := rfl
@[simp] theorem c_pure28 : cf.pure 28 = true := rfl
@[simp] theorem c_pack28 : cf.pack 28 = .whole := rfl
@[simp] theorem c_wary28 : cf.wary 28 = false := rfl
@[simp] theorem c_clone28 : cf.clone 28 = none := rfl
@[simp] theorem k_out28 : kn.out 28 = .frz [[none, some (.i .i64)]] := rfl
@[simp] theorem k_args28 : kn.args 28 = [[none, some (.i .i64)], [none, some (.i .i64)]] := rfl
@[simp] theorem k_nils28 : kn.nils 28 = fun _ => none := rfl
@[simp] theorem k_gc28 : kn.gc 28 = true := rfl
@[simp] theorem k_ali28 : kn.ali 28 = false := rfl
/-! 29: spec.l7more -/
@[simp] theorem c_keep29 (r : Nat) : cf.keep 29 r = tab29.getD r [] := rfl
@[simp] theorem c_pure29 : cf.pure 29 = true := rfl
@[simp] theorem c_pack29 : cf.pack 29 = .whole := rfl
@[simp] theorem c_wary29 : cf.wary 29 = false := rfl
@[simp] theorem c_clone29 : cf.clone 29 = none := rfl
@[simp] theorem k_out29 : kn.out 29 = .frz [[none, some (.i .i64)]] := rfl
@[simp] theorem k_args29 : kn.args 29 = [[none, some (.i .i64)], [none, some (.i .i64)]] := rfl
@[simp] theorem k_nils29 : kn.nils 29 = fun _ => none := rfl
@[simp] theorem k_gc29 : kn.gc 29 = true := rfl
@[simp] theorem k_ali29 : kn.ali 29 = false := rfl
/-! 30: laws.toWhole -/
@[simp] theorem c_keep30 (r : Nat) : cf.keep 30 r = tab30.getD r [] := rfl
@[simp] theorem c_pure30 : cf.pure 30 = true := rfl
@[simp] theorem c_pack30 : cf.pack 30 = .whole := rfl
@[simp] theorem c_wary30 : cf.wary 30 = false := rfl
@[simp] theorem c_clone30 : cf.clone 30 = none := rfl
@[simp] theorem k_out30 : kn.out 30 = .own [[none, some (.i .i64)]] := rfl
@[simp] theorem k_args30 : kn.args 30 = [[none, some (.i .i64)]] := rfl
@[simp] theorem k_nils30 : kn.nils 30 = fun _ => none := rfl
@[simp] theorem k_gc30 : kn.gc 30 = true := rfl
@[simp] theorem k_ali30 : kn.ali 30 = false := rfl
/-! 31: impl.areAll[impl.Iv] -/
@[simp] theorem c_keep31 (r : Nat) : cf.keep 31 r = tab31.getD r [] := rfl
@[simp] theorem c_pure31 : cf.pure 31 = true := rfl
@[simp] theorem c_pack31 : cf.pack 31 = .whole := rfl
@[simp] theorem c_wary31 : cf.wary 31 = false := rfl
@[simp] theorem c_clone31 : cf.clone 31 = none := rfl
@[simp] theorem k_out31 : kn.out 31 = .frz [] := rfl
@[simp] theorem k_args31 : kn.args 31 = [[some (.s 6)]] := rfl
@[simp] theorem k_nils31 : kn.nils 31 = fun _ => none := rfl
@[simp] theorem k_gc31 : kn.gc 31 = true := rfl
@[simp] theorem k_ali31 : kn.ali 31 = false := rfl
/-! 32: impl.IvOk -/
@[simp] theorem c_keep32 (r : Nat) : cf.keep 32 r = tab32.getD r [] := rfl
@[simp] theorem c_pure32 : cf.pure 32 = true := rfl
@[simp] theorem c_pack32 : cf.pack 32 = .whole := rfl
@[simp] theorem c_wary32 : cf.wary 32 = false := rfl
@[simp] theorem c_clone32 : cf.clone 32 = none := rfl
@[simp] theorem k_out32 : kn.out 32 = .frz [] := rfl
@[simp] theorem k_args32 : kn.args 32 = [[none, some (.i .i64), none, none, some (.i .i64)]] := rfl
@[simp] theorem k_nils32 : kn.nils 32 = fun _ => none := rfl
@[simp] theorem k_gc32 : kn.gc 32 = true := rfl
@[simp] theorem k_ali32 : kn.ali 32 = false := rfl
/-! 33: (impl.Dy).exact -/
@[simp] theorem c_keep33 (r : Nat) : cf.keep 33 r = tab33.getD r [] := rfl
@[simp] theorem c_pure33 : cf.pure 33 = true := rfl
@[simp] theorem c_pack33 : cf.pack 33 = .whole := rfl
@[simp] theorem c_wary33 : cf.wary 33 = false := rfl
@[simp] theorem c_clone33 : cf.clone 33 = none := rfl
@[simp] theorem k_out33 : kn.out 33 = .frz [[none, some (.i .i64)]] := rfl
@[simp] theorem k_args33 : kn.args 33 = [[none, some (.i .i64)]] := rfl
@[simp] theorem k_nils33 : kn.nils 33 = fun _ => none := rfl
@[simp] theorem k_gc33 : kn.gc 33 = true := rfl
@[simp] theorem k_ali33 : kn.ali 33 = false := rfl
/-! 34: (impl.span).ends -/
@[simp] theorem c_keep34 (r : Nat) : cf.keep 34 r = tab34.getD r [] := rfl
@[simp] theorem c_pure34 : cf.pure 34 = true := rfl
@[simp] theorem c_pack34 : cf.pack 34 = .whole := rfl
@[simp] theorem c_wary34 : cf.wary 34 = false := rfl
@[simp] theorem c_clone34 : cf.clone 34 = none := rfl
@[simp] theorem k_out34 : kn.out 34 = .frz [[some (.s 3)]] := rfl
@[simp] theorem k_args34 : kn.args 34 = [[none, some (.i .i64), none, none, some (.i .i64)], [none, some (.i .i64), none, none, some (.i .i64)]] := rfl
@[simp] theorem k_nils34 : kn.nils 34 = nil34 := rfl
@[simp] theorem k_gc34 : kn.gc 34 = true := rfl
@[simp] theorem k_ali34 : kn.ali 34 = false := rfl
/-! 35: (impl.exact).times -/
@[simp] theorem c_keep35 (r : Nat) : cf.keep 35 r = tab35.getD r [] := rfl
@[simp] theorem c_pure35 : cf.pure 35 = true := rfl
@[simp] theorem c_pack35 : cf.pack 35 = .whole := rfl
@[simp] theorem c_wary35 : cf.wary 35 = false := rfl
@[simp] theorem c_clone35 : cf.clone 35 = none := rfl
@[simp] theorem k_out35 : kn.out 35 = .frz [[none, some (.i .i64)]] := rfl
@[simp] theorem k_args35 : kn.args 35 = [[none, some (.i .i64)], [none, some (.i .i64)]] := rfl
@[simp] theorem k_nils35 : kn.nils 35 = fun _ => none := rfl
@[simp] theorem k_gc35 : kn.gc 35 = true := rfl
@[simp] theorem k_ali35 : kn.ali 35 = false := rfl
/-! 36: impl.least -/
@[simp] theorem c_keep36 (r : Nat) : cf.keep 36 r = tab36.getD r [] := rfl
@[simp] theorem c_pure36 : cf.pure 36 = true := rfl
@[simp] theorem c_pack36 : cf.pack 36 = .whole := rfl
@[simp] theorem c_wary36 : cf.wary 36 = false := rfl
@[simp] theorem c_clone36 : cf.clone 36 = none := rfl
@[simp] theorem k_out36 : kn.out 36 = .frz [[none, some (.i .i64)]] := rfl
@[simp] theorem k_args36 : kn.args 36 = [[some (.s 3)]] := rfl
@[simp] theorem k_nils36 : kn.nils 36 = fun _ => none := rfl
@[simp] theorem k_gc36 : kn.gc 36 = true := rfl
@[simp] theorem k_ali36 : kn.ali 36 = false := rfl
/-! 37: impl.most -/
@[simp] theorem c_keep37 (r : Nat) : cf.keep 37 r = tab37.getD r [] := rfl
@[simp] theorem c_pure37 : cf.pure 37 = true := rfl
@[simp] theorem c_pack37 : cf.pack 37 = .whole := rfl
@[simp] theorem c_wary37 : cf.wary 37 = false := rfl
@[simp] theorem c_clone37 : cf.clone 37 = none := rfl
@[simp] theorem k_out37 : kn.out 37 = .frz [[none, some (.i .i64)]] := rfl
@[simp] theorem k_args37 : kn.args 37 = [[some (.s 3)]] := rfl
@[simp] theorem k_nils37 : kn.nils 37 = fun _ => none := rfl
@[simp] theorem k_gc37 : kn.gc 37 = true := rfl
@[simp] theorem k_ali37 : kn.ali 37 = false := rfl
/-! 38: (impl.exact).dy -/
@[simp] theorem c_keep38 (r : Nat) : cf.keep 38 r = tab38.getD r [] := rfl
@[simp] theorem c_pure38 : cf.pure 38 = true := rfl
@[simp] theorem c_pack38 : cf.pack 38 = .whole := rfl
@[simp] theorem c_wary38 : cf.wary 38 = false := rfl
@[simp] theorem c_clone38 : cf.clone 38 = none := rfl
@[simp] theorem k_out38 : kn.out 38 = .own [[none, some (.i .i64)]] := rfl
@[simp] theorem k_args38 : kn.args 38 = [[none, some (.i .i64)]] := rfl
@[simp] theorem k_nils38 : kn.nils 38 = fun _ => none := rfl
@[simp] theorem k_gc38 : kn.gc 38 = true := rfl
@[simp] theorem k_ali38 : kn.ali 38 = false := rfl
/-! 39: laws.eqWhole -/
@[simp] theorem c_keep39 (r : Nat) : cf.keep 39 r = tab39.getD r [] := rfl
@[simp] theorem c_pure39 : cf.pure 39 = true := rfl
@[simp] theorem c_pack39 : cf.pack 39 = .whole := rfl
@[simp] theorem c_wary39 : cf.wary 39 = false := rfl
@[simp] theorem c_clone39 : cf.clone 39 = none := rfl
@[simp] theorem k_out39 : kn.out 39 = .frz [] := rfl
@[simp] theorem k_args39 : kn.args 39 = [[none, some (.i .i64)], [none, some (.i .i64)]] := rfl
@[simp] theorem k_nils39 : kn.nils 39 = fun _ => none := rfl
@[simp] theorem k_gc39 : kn.gc 39 = true := rfl
@[simp] theorem k_ali39 : kn.ali 39 = false := rfl
/-! 40: laws.markWhole -/
@[simp] theorem c_keep40 (r : Nat) : cf.keep 40 r = tab40.getD r [] := rfl
@[simp] theorem c_pure40 : cf.pure 40 = false := rfl
@[simp] theorem c_pack40 : cf.pack 40 = .whole := rfl
@[simp] theorem c_wary40 : cf.wary 40 = false := rfl
@[simp] theorem c_clone40 : cf.clone 40 = none := rfl
@[simp] theorem k_out40 : kn.out 40 = .inl := rfl
@[simp] theorem k_args40 : kn.args 40 = [] := rfl
@[simp] theorem k_nils40 : kn.nils 40 = fun _ => none := rfl
@[simp] theorem k_gc40 : kn.gc 40 = false := rfl
@[simp] theorem k_ali40 : kn.ali 40 = false := rfl
/-! 41: laws.heldWhole -/
@[simp] theorem c_keep41 (r : Nat) : cf.keep 41 r = tab41.getD r [] := rfl
@[simp] theorem c_pure41 : cf.pure 41 = true := rfl
@[simp] theorem c_pack41 : cf.pack 41 = .whole := rfl
@[simp] theorem c_wary41 : cf.wary 41 = false := rfl
@[simp] theorem c_clone41 : cf.clone 41 = none := rfl
@[simp] theorem k_out41 : kn.out 41 = .frz [] := rfl
@[simp] theorem k_args41 : kn.args 41 = [[none, some (.i .i64)]] := rfl
@[simp] theorem k_nils41 : kn.nils 41 = fun _ => none := rfl
@[simp] theorem k_gc41 : kn.gc 41 = true := rfl
@[simp] theorem k_ali41 : kn.ali 41 = false := rfl
/-! 42: laws.szNat -/
@[simp] theorem c_keep42 (r : Nat) : cf.keep 42 r = tab42.getD r [] := rfl
@[simp] theorem c_pure42 : cf.pure 42 = true := rfl
@[simp] theorem c_pack42 : cf.pack 42 = .whole := rfl
@[simp] theorem c_wary42 : cf.wary 42 = false := rfl
@[simp] theorem c_clone42 : cf.clone 42 = none := rfl
@[simp] theorem k_out42 : kn.out 42 = .frz [] := rfl
@[simp] theorem k_args42 : kn.args 42 = [[some (.i .i64)]] := rfl
@[simp] theorem k_nils42 : kn.nils 42 = fun _ => none := rfl
@[simp] theorem k_gc42 : kn.gc 42 = true := rfl
@[simp] theorem k_ali42 : kn.ali 42 = false := rfl
/-! 43: spec.WholeOk -/
@[simp] theorem c_keep43 (r : Nat) : cf.keep 43 r = tab43.getD r [] := rfl
@[simp] theorem c_pure43 : cf.pure 43 = true := rfl
@[simp] theorem c_pack43 : cf.pack 43 = .whole := rfl
@[simp] theorem c_wary43 : cf.wary 43 = false := rfl
@[simp] theorem c_clone43 : cf.clone 43 = none := rfl
@[simp] theorem k_out43 : kn.out 43 = .frz [] := rfl
@[simp] theorem k_args43 : kn.args 43 = [[none, some (.i .i64)]] := rfl
@[simp] theorem k_nils43 : kn.nils 43 = fun _ => none := rfl
@[simp] theorem k_gc43 : kn.gc 43 = true := rfl
@[simp] theorem k_ali43 : kn.ali 43 = false := rfl
/-! 44: spec.l2bit -/
@[simp] theorem c_keep44 (r : Nat) : cf.keep 44 r = tab44.getD r [] := rfl
@[simp] theorem c_pure44 : cf.pure 44 = true := rfl
@[simp] theorem c_pack44 : cf.pack 44 = .whole := rfl
@[simp] theorem c_wary44 : cf.wary 44 = false := rfl
@[simp] theorem c_clone44 : cf.clone 44 = none := rfl
@[simp] theorem k_out44 : kn.out 44 = .frz [] := rfl
@[simp] theorem k_args44 : kn.args 44 = [[some (.i .i64)]] := rfl
@[simp] theorem k_nils44 : kn.nils 44 = fun _ => none := rfl
@[simp] theorem k_gc44 : kn.gc 44 = true := rfl
@[simp] theorem k_ali44 : kn.ali 44 = false := rfl
/-! 45: spec.l4align -/
@[simp] theorem c_keep45 (r : Nat) : cf.keep 45 r = tab45.getD r [] := rfl
@[simp] theorem c_pure45 : cf.pure 45 = true := rfl
@[simp] theorem c_pack45 : cf.pack 45 = .whole := rfl
@[simp] theorem c_wary45 : cf.wary 45 = true := rfl
@[simp] theorem c_clone45 : cf.clone 45 = none := rfl
@[simp] theorem k_out45 : kn.out 45 = .frz [[none, some (.i .i64)], [none, some (.i .i64)]] := rfl
@[simp] theorem k_args45 : kn.args 45 = [[none, some (.i .i64)], [none, some (.i .i64)]] := rfl
@[simp] theorem k_nils45 : kn.nils 45 = fun _ => none := rfl
@[simp] theorem k_gc45 : kn.gc 45 = true := rfl
@[simp] theorem k_ali45 : kn.ali 45 = false := rfl
/-! 46: spec.l3cmp -/
@[simp] theorem c_keep46 (r : Nat) : cf.keep 46 r = tab46.getD r [] := rfl
@[simp] theorem c_pure46 : cf.pure 46 = true := rfl
@[simp] theorem c_pack46 : cf.pack 46 = .whole := rfl
@[simp] theorem c_wary46 : cf.wary 46 = false := rfl
@[simp] theorem c_clone46 : cf.clone 46 = none := rfl
@[simp] theorem k_out46 : kn.out 46 = .frz [] := rfl
@[simp] theorem k_args46 : kn.args 46 = [[none, some (.i .i64)], [none, some (.i .i64)]] := rfl
@[simp] theorem k_nils46 : kn.nils 46 = fun _ => none := rfl
@[simp] theorem k_gc46 : kn.gc 46 = true := rfl
@[simp] theorem k_ali46 : kn.ali 46 = false := rfl
/-! 47: spec.l3make -/
@[simp] theorem c_keep47 (r : Nat) : cf.keep 47 r = tab47.getD r [] := rfl
@[simp] theorem c_pure47 : cf.pure 47 = true := rfl
@[simp] theorem c_pack47 : cf.pack 47 = .whole := rfl
@[simp] theorem c_wary47 : cf.wary 47 = false := rfl
@[simp] theorem c_clone47 : cf.clone 47 = none := rfl
@[simp] theorem k_out47 : kn.out 47 = .frz [[none, some (.i .i64)]] := rfl
@[simp] theorem k_args47 : kn.args 47 = [[], [some (.i .i64)]] := rfl
@[simp] theorem k_nils47 : kn.nils 47 = fun _ => none := rfl
@[simp] theorem k_gc47 : kn.gc 47 = true := rfl
@[simp] theorem k_ali47 : kn.ali 47 = false := rfl
/-! 48: spec.l4make -/
@[simp] theorem c_keep48 (r : Nat) : cf.keep 48 r = tab48.getD r [] := rfl
@[simp] theorem c_pure48 : cf.pure 48 = true := rfl
@[simp] theorem c_pack48 : cf.pack 48 = .whole := rfl
@[simp] theorem c_wary48 : cf.wary 48 = false := rfl
@[simp] theorem c_clone48 : cf.clone 48 = none := rfl
@[simp] theorem k_out48 : kn.out 48 = .frz [[none, some (.i .i64)]] := rfl
@[simp] theorem k_args48 : kn.args 48 = [[none, some (.i .i64)]] := rfl
@[simp] theorem k_nils48 : kn.nils 48 = fun _ => none := rfl
@[simp] theorem k_gc48 : kn.gc 48 = true := rfl
@[simp] theorem k_ali48 : kn.ali 48 = false := rfl
/-! 49: spec.l3mul -/
@[simp] theorem c_keep49 (r : Nat) : cf.keep 49 r = tab49.getD r [] := rfl
@[simp] theorem c_pure49 : cf.pure 49 = true := rfl
@[simp] theorem c_pack49 : cf.pack 49 = .whole := rfl
@[simp] theorem c_wary49 : cf.wary 49 = false := rfl
@[simp] theorem c_clone49 : cf.clone 49 = none := rfl
@[simp] theorem k_out49 : kn.out 49 = .frz [[none, some (.i .i64)]] := rfl
@[simp] theorem k_args49 : kn.args 49 = [[none, some (.i .i64)], [none, some (.i .i64)]] := rfl
@[simp] theorem k_nils49 : kn.nils 49 = fun _ => none := rfl
@[simp] theorem k_gc49 : kn.gc 49 = true := rfl
@[simp] theorem k_ali49 : kn.ali 49 = false := rfl
/-! 50: laws.toNat -/
@[simp] theorem c_keep50 (r : Nat) : cf.keep 50 r = tab50.getD r [] := rfl
@[simp] theorem c_pure50 : cf.pure 50 = true := rfl
@[simp] theorem c_pack50 : cf.pack 50 = .whole := rfl
@[simp] theorem c_wary50 : cf.wary 50 = false := rfl
@[simp] theorem c_clone50 : cf.clone 50 = none := rfl
@[simp] theorem k_out50 : kn.out 50 = .own [[some (.i .i64)]] := rfl
@[simp] theorem k_args50 : kn.args 50 = [[some (.i .i64)]] := rfl
@[simp] theorem k_nils50 : kn.nils 50 = fun _ => none := rfl
@[simp] theorem k_gc50 : kn.gc 50 = true := rfl
@[simp] theorem k_ali50 : kn.ali 50 = false := rfl
/-! 51: slices.ContainsFunc[[]impl.Iv,impl.Iv] -/
@[simp] theorem c_keep51 (r : Nat) : cf.keep 51 r = tab51.getD r [] := rfl
@[simp] theorem c_pure51 : cf.pure 51 = true := rfl
@[simp] theorem c_pack51 : cf.pack 51 = .whole := rfl
@[simp] theorem c_wary51 : cf.wary 51 = false := rfl
@[simp] theorem c_clone51 : cf.clone 51 = none := rfl
@[simp] theorem k_out51 : kn.out 51 = .frz [] := rfl
@[simp] theorem k_args51 : kn.args 51 = [[some (.s 6)]] := rfl
@[simp] theorem k_nils51 : kn.nils 51 = fun _ => none := rfl
@[simp] theorem k_gc51 : kn.gc 51 = true := rfl
@[simp] theorem k_ali51 : kn.ali 51 = false := rfl
/-! 52: impl.areAll[impl.Iv]$1 -/
@[simp] theorem c_keep52 (r : Nat) : cf.keep 52 r = tab52.getD r [] := rfl
@[simp] theorem c_pure52 : cf.pure 52 = true := rfl
@[simp] theorem c_pack52 : cf.pack 52 = .whole := rfl
@[simp] theorem c_wary52 : cf.wary 52 = false := rfl
@[simp] theorem c_clone52 : cf.clone 52 = none := rfl
@[simp] theorem k_out52 : kn.out 52 = .frz [] := rfl
@[simp] theorem k_args52 : kn.args 52 = [[none, some (.i .i64), none, none, some (.i .i64)]] := rfl
@[simp] theorem k_nils52 : kn.nils 52 = fun _ => none := rfl
@[simp] theorem k_gc52 : kn.gc 52 = true := rfl
@[simp] theorem k_ali52 : kn.ali 52 = false := rfl
/-! 53: impl.areDys -/
@[simp] theorem c_keep53 (r : Nat) : cf.keep 53 r = tab53.getD r [] := rfl
@[simp] theorem c_pure53 : cf.pure 53 = true := rfl
@[simp] theorem c_pack53 : cf.pack 53 = .whole := rfl
@[simp] theorem c_wary53 : cf.wary 53 = false := rfl
@[simp] theorem c_clone53 : cf.clone 53 = none := rfl
@[simp] theorem k_out53 : kn.out 53 = .frz [] := rfl
@[simp] theorem k_args53 : kn.args 53 = [[some (.s 3)]] := rfl
@[simp] theorem k_nils53 : kn.nils 53 = fun _ => none := rfl
@[simp] theorem k_gc53 : kn.gc 53 = true := rfl
@[simp] theorem k_ali53 : kn.ali 53 = false := rfl
/-! 54: (impl.exact).compare -/
@[simp] theorem c_keep54 (r : Nat) : cf.keep 54 r = tab54.getD r [] := rfl
@[simp] theorem c_pure54 : cf.pure 54 = true := rfl
@[simp] theorem c_pack54 : cf.pack 54 = .whole := rfl
@[simp] theorem c_wary54 : cf.wary 54 = false := rfl
@[simp] theorem c_clone54 : cf.clone 54 = none := rfl
@[simp] theorem k_out54 : kn.out 54 = .frz [] := rfl
@[simp] theorem k_args54 : kn.args 54 = [[none, some (.i .i64)], [none, some (.i .i64)]] := rfl
@[simp] theorem k_nils54 : kn.nils 54 = fun _ => none := rfl
@[simp] theorem k_gc54 : kn.gc 54 = true := rfl
@[simp] theorem k_ali54 : kn.ali 54 = false := rfl
/-! 55: impl.times -/
@[simp] theorem c_keep55 (r : Nat) : cf.keep 55 r = tab55.getD r [] := rfl
@[simp] theorem c_pure55 : cf.pure 55 = true := rfl
@[simp] theorem c_pack55 : cf.pack 55 = .whole := rfl
@[simp] theorem c_wary55 : cf.wary 55 = false := rfl
@[simp] theorem c_clone55 : cf.clone 55 = none := rfl
@[simp] theorem k_out55 : kn.out 55 = .own [[some (.i .i64)]] := rfl
@[simp] theorem k_args55 : kn.args 55 = [[some (.i .i64)], [some (.i .i64)]] := rfl
@[simp] theorem k_nils55 : kn.nils 55 = nil55 := rfl
@[simp] theorem k_gc55 : kn.gc 55 = true := rfl
@[simp] theorem k_ali55 : kn.ali 55 = false := rfl
/-! 56: slices.MinFunc[[]impl.exact,impl.exact] -/
@[simp] theorem c_keep56 (r : Nat) : cf.keep 56 r = tab56.getD r [] := rfl
@[simp] theorem c_pure56 : cf.pure 56 = true := rfl
@[simp] theorem c_pack56 : cf.pack 56 = .whole := rfl
@[simp] theorem c_wary56 : cf.wary 56 = false := rfl
@[simp] theorem c_clone56 : cf.clone 56 = none := rfl
@[simp] theorem k_out56 : kn.out 56 = .frz [[none, some (.i .i64)]] := rfl
@[simp] theorem k_args56 : kn.args 56 = [[some (.s 3)]] := rfl
@[simp] theorem k_nils56 : kn.nils 56 = fun _ => none := rfl
@[simp] theorem k_gc56 : kn.gc 56 = true := rfl
@[simp] theorem k_ali56 : kn.ali 56 = false := rfl
/-! 57: slices.MaxFunc[[]impl.exact,impl.exact] -/
@[simp] theorem c_keep57 (r : Nat) : cf.keep 57 r = tab57.getD r [] := rfl
@[simp] theorem c_pure57 : cf.pure 57 = true := rfl
@[simp] theorem c_pack57 : cf.pack 57 = .whole := rfl
@[simp] theorem c_wary57 : cf.wary 57 = false := rfl
@[simp] theorem c_clone57 : cf.clone 57 = none := rfl
@[simp] theorem k_out57 : kn.out 57 = .frz [[none, some (.i .i64)]] := rfl
@[simp] theorem k_args57 : kn.args 57 = [[some (.s 3)]] := rfl
@[simp] theorem k_nils57 : kn.nils 57 = fun _ => none := rfl
@[simp] theorem k_gc57 : kn.gc 57 = true := rfl
@[simp] theorem k_ali57 : kn.ali 57 = false := rfl
/-! 58: (impl.exact).odd -/
@[simp] theorem c_keep58 (r : Nat) : cf.keep 58 r = tab58.getD r [] := rfl
@[simp] theorem c_pure58 : cf.pure 58 = true := rfl
@[simp] theorem c_pack58 : cf.pack 58 = .whole := rfl
@[simp] theorem c_wary58 : cf.wary 58 = false := rfl
@[simp] theorem c_clone58 : cf.clone 58 = none := rfl
@[simp] theorem k_out58 : kn.out 58 = .frz [[none, some (.i .i64)]] := rfl
@[simp] theorem k_args58 : kn.args 58 = [[none, some (.i .i64)]] := rfl
@[simp] theorem k_nils58 : kn.nils 58 = fun _ => none := rfl
@[simp] theorem k_gc58 : kn.gc 58 = true := rfl
@[simp] theorem k_ali58 : kn.ali 58 = false := rfl
/-! 59: impl.wholeOf -/
@[simp] theorem c_keep59 (r : Nat) : cf.keep 59 r = tab59.getD r [] := rfl
@[simp] theorem c_pure59 : cf.pure 59 = true := rfl
@[simp] theorem c_pack59 : cf.pack 59 = .whole := rfl
@[simp] theorem c_wary59 : cf.wary 59 = false := rfl
@[simp] theorem c_clone59 : cf.clone 59 = none := rfl
@[simp] theorem k_out59 : kn.out 59 = .own [[none, some (.i .i64)]] := rfl
@[simp] theorem k_args59 : kn.args 59 = [[], [some (.i .i64)]] := rfl
@[simp] theorem k_nils59 : kn.nils 59 = fun _ => none := rfl
@[simp] theorem k_gc59 : kn.gc 59 = true := rfl
@[simp] theorem k_ali59 : kn.ali 59 = false := rfl
/-! 60: impl.within -/
@[simp] theorem c_keep60 (r : Nat) : cf.keep 60 r = tab60.getD r [] := rfl
@[simp] theorem c_pure60 : cf.pure 60 = true := rfl
@[simp] theorem c_pack60 : cf.pack 60 = .whole := rfl
@[simp] theorem c_wary60 : cf.wary 60 = false := rfl
@[simp] theorem c_clone60 : cf.clone 60 = none := rfl
@[simp] theorem k_out60 : kn.out 60 = .frz [] := rfl
@[simp] theorem k_args60 : kn.args 60 = [] := rfl
@[simp] theorem k_nils60 : kn.nils 60 = fun _ => none := rfl
@[simp] theorem k_gc60 : kn.gc 60 = true := rfl
@[simp] theorem k_ali60 : kn.ali 60 = false := rfl
/-! 61: laws.eqNat -/
@[simp] theorem c_keep61 (r : Nat) : cf.keep 61 r = tab61.getD r [] := rfl
@[simp] theorem c_pure61 : cf.pure 61 = true := rfl
@[simp] theorem c_pack61 : cf.pack 61 = .whole := rfl
@[simp] theorem c_wary61 : cf.wary 61 = false := rfl
@[simp] theorem c_clone61 : cf.clone 61 = none := rfl
@[simp] theorem k_out61 : kn.out 61 = .frz [] := rfl
@[simp] theorem k_args61 : kn.args 61 = [[some (.i .i64)], [some (.i .i64)]] := rfl
@[simp] theorem k_nils61 : kn.nils 61 = fun _ => none := rfl
@[simp] theorem k_gc61 : kn.gc 61 = true := rfl
@[simp] theorem k_ali61 : kn.ali 61 = false := rfl
/-! 62: laws.markNat -/
@[simp] theorem c_keep62 (r : Nat) : cf.keep 62 r = tab62.getD r [] := rfl
@[simp] theorem c_pure62 : cf.pure 62 = false := rfl
@[simp] theorem c_pack62 : cf.pack 62 = .whole := rfl
@[simp] theorem c_wary62 : cf.wary 62 = false := rfl
@[simp] theorem c_clone62 : cf.clone 62 = none := rfl
@[simp] theorem k_out62 : kn.out 62 = .inl := rfl
@[simp] theorem k_args62 : kn.args 62 = [] := rfl
@[simp] theorem k_nils62 : kn.nils 62 = fun _ => none := rfl
@[simp] theorem k_gc62 : kn.gc 62 = false := rfl
@[simp] theorem k_ali62 : kn.ali 62 = false := rfl
/-! 63: laws.heldNat -/
@[simp] theorem c_keep63 (r : Nat) : cf.keep 63 r = tab63.getD r [] := rfl
@[simp] theorem c_pure63 : cf.pure 63 = true := rfl
@[simp] theorem c_pack63 : cf.pack 63 = .whole := rfl
@[simp] theorem c_wary63 : cf.wary 63 = false := rfl
@[simp] theorem c_clone63 : cf.clone 63 = none := rfl
@[simp] theorem k_out63 : kn.out 63 = .frz [] := rfl
@[simp] theorem k_args63 : kn.args 63 = [[some (.i .i64)]] := rfl
@[simp] theorem k_nils63 : kn.nils 63 = fun _ => none := rfl
@[simp] theorem k_gc63 : kn.gc 63 = true := rfl
@[simp] theorem k_ali63 : kn.ali 63 = false := rfl
/-! 64: laws.szIntS -/
@[simp] theorem c_keep64 (r : Nat) : cf.keep 64 r = tab64.getD r [] := rfl
@[simp] theorem c_pure64 : cf.pure 64 = true := rfl
@[simp] theorem c_pack64 : cf.pack 64 = .whole := rfl
@[simp] theorem c_wary64 : cf.wary 64 = false := rfl
@[simp] theorem c_clone64 : cf.clone 64 = none := rfl
@[simp] theorem k_out64 : kn.out 64 = .frz [] := rfl
@[simp] theorem k_args64 : kn.args 64 = [[some (.i .i64)]] := rfl
@[simp] theorem k_nils64 : kn.nils 64 = fun _ => none := rfl
@[simp] theorem k_gc64 : kn.gc 64 = true := rfl
@[simp] theorem k_ali64 : kn.ali 64 = false := rfl
/-! 65: spec.NatOk -/
@[simp] theorem c_keep65 (r : Nat) : cf.keep 65 r = tab65.getD r [] := rfl
@[simp] theorem c_pure65 : cf.pure 65 = true := rfl
@[simp] theorem c_pack65 : cf.pack 65 = .whole := rfl
@[simp] theorem c_wary65 : cf.wary 65 = false := rfl
@[simp] theorem c_clone65 : cf.clone 65 = none := rfl
@[simp] theorem k_out65 : kn.out 65 = .frz [] := rfl
@[simp] theorem k_args65 : kn.args 65 = [[some (.i .i64)]] := rfl
@[simp] theorem k_nils65 : kn.nils 65 = fun _ => none := rfl
@[simp] theorem k_gc65 : kn.gc 65 = true := rfl
@[simp] theorem k_ali65 : kn.ali 65 = false := rfl
/-! 66: spec.l2shl -/
@[simp] theorem c_keep66 (r : Nat) : cf.keep 66 r = tab66.getD r [] := rfl
@[simp] theorem c_pure66 : cf.pure 66 = true := rfl
@[simp] theorem c_pack66 : cf.pack 66 = .whole := rfl
@[simp] theorem c_wary66 : cf.wary 66 = false := rfl
@[simp] theorem c_clone66 : cf.clone 66 = none := rfl
@[simp] theorem k_out66 : kn.out 66 = .frz [[some (.i .i64)]] := rfl
@[simp] theorem k_args66 : kn.args 66 = [[some (.i .i64)]] := rfl
@[simp] theorem k_nils66 : kn.nils 66 = fun _ => none := rfl
@[simp] theorem k_gc66 : kn.gc 66 = true := rfl
@[simp] theorem k_ali66 : kn.ali 66 = false := rfl
/-! 67: spec.l2cmp -/
@[simp] theorem c_keep67 (r : Nat) : cf.keep 67 r = tab67.getD r [] := rfl
@[simp] theorem c_pure67 : cf.pure 67 = true := rfl
@[simp] theorem c_pack67 : cf.pack 67 = .whole := rfl
@[simp] theorem c_wary67 : cf.wary 67 = false := rfl
@[simp] theorem c_clone67 : cf.clone 67 = none := rfl
@[simp] theorem k_out67 : kn.out 67 = .frz [] := rfl
@[simp] theorem k_args67 : kn.args 67 = [[some (.i .i64)], [some (.i .i64)]] := rfl
@[simp] theorem k_nils67 : kn.nils 67 = fun _ => none := rfl
@[simp] theorem k_gc67 : kn.gc 67 = true := rfl
@[simp] theorem k_ali67 : kn.ali 67 = false := rfl
/-! 68: spec.l2norm -/
@[simp] theorem c_keep68 (r : Nat) : cf.keep 68 r = tab68.getD r [] := rfl
@[simp] theorem c_pure68 : cf.pure 68 = true := rfl
@[simp] theorem c_pack68 : cf.pack 68 = .whole := rfl
@[simp] theorem c_wary68 : cf.wary 68 = false := rfl
@[simp] theorem c_clone68 : cf.clone 68 = none := rfl
@[simp] theorem k_out68 : kn.out 68 = .own [[some (.i .i64)]] := rfl
@[simp] theorem k_args68 : kn.args 68 = [[some (.i .i64)]] := rfl
@[simp] theorem k_nils68 : kn.nils 68 = fun _ => none := rfl
@[simp] theorem k_gc68 : kn.gc 68 = true := rfl
@[simp] theorem k_ali68 : kn.ali 68 = false := rfl
/-! 69: spec.l2trail -/
@[simp] theorem c_keep69 (r : Nat) : cf.keep 69 r = tab69.getD r [] := rfl
@[simp] theorem c_pure69 : cf.pure 69 = true := rfl
@[simp] theorem c_pack69 : cf.pack 69 = .whole := rfl
@[simp] theorem c_wary69 : cf.wary 69 = false := rfl
@[simp] theorem c_clone69 : cf.clone 69 = none := rfl
@[simp] theorem k_out69 : kn.out 69 = .frz [] := rfl
@[simp] theorem k_args69 : kn.args 69 = [[some (.i .i64)]] := rfl
@[simp] theorem k_nils69 : kn.nils 69 = fun _ => none := rfl
@[simp] theorem k_gc69 : kn.gc 69 = true := rfl
@[simp] theorem k_ali69 : kn.ali 69 = false := rfl
/-! 70: spec.l2shr -/
@[simp] theorem c_keep70 (r : Nat) : cf.keep 70 r = tab70.getD r [] := rfl
@[simp] theorem c_pure70 : cf.pure 70 = true := rfl
@[simp] theorem c_pack70 : cf.pack 70 = .whole := rfl
@[simp] theorem c_wary70 : cf.wary 70 = false := rfl
@[simp] theorem c_clone70 : cf.clone 70 = none := rfl
@[simp] theorem k_out70 : kn.out 70 = .frz [[some (.i .i64)]] := rfl
@[simp] theorem k_args70 : kn.args 70 = [[some (.i .i64)]] := rfl
@[simp] theorem k_nils70 : kn.nils 70 = fun _ => none := rfl
@[simp] theorem k_gc70 : kn.gc 70 = true := rfl
@[simp] theorem k_ali70 : kn.ali 70 = false := rfl
/-! 71: spec.l2mul -/
@[simp] theorem c_keep71 (r : Nat) : cf.keep 71 r = tab71.getD r [] := rfl
@[simp] theorem c_pure71 : cf.pure 71 = true := rfl
@[simp] theorem c_pack71 : cf.pack 71 = .whole := rfl
@[simp] theorem c_wary71 : cf.wary 71 = false := rfl
@[simp] theorem c_clone71 : cf.clone 71 = none := rfl
@[simp] theorem k_out71 : kn.out 71 = .frz [[some (.i .i64)]] := rfl
@[simp] theorem k_args71 : kn.args 71 = [[some (.i .i64)], [some (.i .i64)]] := rfl
@[simp] theorem k_nils71 : kn.nils 71 = fun _ => none := rfl
@[simp] theorem k_gc71 : kn.gc 71 = true := rfl
@[simp] theorem k_ali71 : kn.ali 71 = false := rfl
/-! 72: laws.toIntS -/
@[simp] theorem c_keep72 (r : Nat) : cf.keep 72 r = tab72.getD r [] := rfl
@[simp] theorem c_pure72 : cf.pure 72 = true := rfl
@[simp] theorem c_pack72 : cf.pack 72 = .whole := rfl
@[simp] theorem c_wary72 : cf.wary 72 = false := rfl
@[simp] theorem c_clone72 : cf.clone 72 = none := rfl
@[simp] theorem k_out72 : kn.out 72 = .own [[some (.i .i64)]] := rfl
@[simp] theorem k_args72 : kn.args 72 = [[some (.i .i64)]] := rfl
@[simp] theorem k_nils72 : kn.nils 72 = nil72 := rfl
@[simp] theorem k_gc72 : kn.gc 72 = true := rfl
@[simp] theorem k_ali72 : kn.ali 72 = false := rfl
/-! 73: slices.IndexFunc[[]impl.Iv,impl.Iv] -/
@[simp] theorem c_keep73 (r : Nat) : cf.keep 73 r = tab73.getD r [] := rfl
@[simp] theorem c_pure73 : cf.pure 73 = true := rfl
@[simp] theorem c_pack73 : cf.pack 73 = .whole := rfl
@[simp] theorem c_wary73 : cf.wary 73 = false := rfl
@[simp] theorem c_clone73 : cf.clone 73 = none := rfl
@[simp] theorem k_out73 : kn.out 73 = .frz [] := rfl
@[simp] theorem k_args73 : kn.args 73 = [[some (.s 6)]] := rfl
@[simp] theorem k_nils73 : kn.nils 73 = fun _ => none := rfl
@[simp] theorem k_gc73 : kn.gc 73 = true := rfl
@[simp] theorem k_ali73 : kn.ali 73 = false := rfl
/-! 74: impl.areAll[impl.Dy] -/
@[simp] theorem c_keep74 (r : Nat) : cf.keep 74 r = tab74.getD r [] := rfl
@[simp] theorem c_pure74 : cf.pure 74 = true := rfl
@[simp] theorem c_pack74 : cf.pack 74 = .whole := rfl
@[simp] theorem c_wary74 : cf.wary 74 = false := rfl
@[simp] theorem c_clone74 : cf.clone 74 = none := rfl
@[simp] theorem k_out74 : kn.out 74 = .frz [] := rfl
@[simp] theorem k_args74 : kn.args 74 = [[some (.s 3)]] := rfl
@[simp] theorem k_nils74 : kn.nils 74 = fun _ => none := rfl
@[simp] theorem k_gc74 : kn.gc 74 = true := rfl
@[simp] theorem k_ali74 : kn.ali 74 = false := rfl
/-! 75: impl.DyOk -/
@[simp] theorem c_keep75 (r : Nat) : cf.keep 75 r = tab75.getD r [] := rfl
@[simp] theorem c_pure75 : cf.pure 75 = true := rfl
@[simp] theorem c_pack75 : cf.pack 75 = .whole := rfl
@[simp] theorem c_wary75 : cf.wary 75 = false := rfl
@[simp] theorem c_clone75 : cf.clone 75 = none := rfl
@[simp] theorem k_out75 : kn.out 75 = .frz [] := rfl
@[simp] theorem k_args75 : kn.args 75 = [[none, some (.i .i64)]] := rfl
@[simp] theorem k_nils75 : kn.nils 75 = fun _ => none := rfl
@[simp] theorem k_gc75 : kn.gc 75 = true := rfl
@[simp] theorem k_ali75 : kn.ali 75 = false := rfl
/-! 76: impl.aligned -/
@[simp] theorem c_keep76 (r : Nat) : cf.keep 76 r = tab76.getD r [] := rfl
@[simp] theorem c_pure76 : cf.pure 76 = true := rfl
@[simp] theorem c_pack76 : cf.pack 76 = .whole := rfl
@[simp] theorem c_wary76 : cf.wary 76 = false := rfl
@[simp] theorem c_clone76 : cf.clone 76 = none := rfl
@[simp] theorem k_out76 : kn.out 76 = .frz [[some (.i .i64)], [some (.i .i64)]] := rfl
@[simp] theorem k_args76 : kn.args 76 = [[none, some (.i .i64)], [none, some (.i .i64)]] := rfl
@[simp] theorem k_nils76 : kn.nils 76 = nil76 := rfl
@[simp] theorem k_gc76 : kn.gc 76 = true := rfl
@[simp] theorem k_ali76 : kn.ali 76 = false := rfl
/-! 77: impl.signedCompare -/
@[simp] theorem c_keep77 (r : Nat) : cf.keep 77 r = tab77.getD r [] := rfl
@[simp] theorem c_pure77 : cf.pure 77 = true := rfl
@[simp] theorem c_pack77 : cf.pack 77 = .whole := rfl
@[simp] theorem c_wary77 : cf.wary 77 = false := rfl
@[simp] theorem c_clone77 : cf.clone 77 = none := rfl
@[simp] theorem k_out77 : kn.out 77 = .frz [] := rfl
@[simp] theorem k_args77 : kn.args 77 = [[], [some (.i .i64)], [], [some (.i .i64)]] := rfl
@[simp] theorem k_nils77 : kn.nils 77 = fun _ => none := rfl
@[simp] theorem k_gc77 : kn.gc 77 = true := rfl
@[simp] theorem k_ali77 : kn.ali 77 = false := rfl
/-! 78: impl.trim -/
@[simp] theorem c_keep78 (r : Nat) : cf.keep 78 r = tab78.getD r [] := rfl
@[simp] theorem c_pure78 : cf.pure 78 = true := rfl
@[simp] theorem c_pack78 : cf.pack 78 = .whole := rfl
@[simp] theorem c_wary78 : cf.wary 78 = false := rfl
@[simp] theorem c_clone78 : cf.clone 78 = none := rfl
@[simp] theorem k_out78 : kn.out 78 = .inl := rfl
@[simp] theorem k_args78 : kn.args 78 = [[some (.i .i64)]] := rfl
@[simp] theorem k_nils78 : kn.nils 78 = nil78 := rfl
@[simp] theorem k_gc78 : kn.gc 78 = false := rfl
@[simp] theorem k_ali78 : kn.ali 78 = true := rfl
/-! 79: impl.trailOf -/
@[simp] theorem c_keep79 (r : Nat) : cf.keep 79 r = tab79.getD r [] := rfl
@[simp] theorem c_pure79 : cf.pure 79 = true := rfl
@[simp] theorem c_pack79 : cf.pack 79 = .whole := rfl
@[simp] theorem c_wary79 : cf.wary 79 = false := rfl
@[simp] theorem c_clone79 : cf.clone 79 = none := rfl
@[simp] theorem k_out79 : kn.out 79 = .frz [] := rfl
@[simp] theorem k_args79 : kn.args 79 = [[some (.i .i64)]] := rfl
@[simp] theorem k_nils79 : kn.nils 79 = fun _ => none := rfl
@[simp] theorem k_gc79 : kn.gc 79 = true := rfl
@[simp] theorem k_ali79 : kn.ali 79 = false := rfl
/-! 80: impl.down -/
@[simp] theorem c_keep80 (r : Nat) : cf.keep 80 r = tab80.getD r [] := rfl
@[simp] theorem c_pure80 : cf.pure 80 = true := rfl
@[simp] theorem c_pack80 : cf.pack 80 = .whole := rfl
@[simp] theorem c_wary80 : cf.wary 80 = false := rfl
@[simp] theorem c_clone80 : cf.clone 80 = none := rfl
@[simp] theorem k_out80 : kn.out 80 = .own [[some (.i .i64)]] := rfl
@[simp] theorem k_args80 : kn.args 80 = [[some (.i .i64)]] := rfl
@[simp] theorem k_nils80 : kn.nils 80 = nil80 := rfl
@[simp] theorem k_gc80 : kn.gc 80 = true := rfl
@[simp] theorem k_ali80 : kn.ali 80 = false := rfl
/-! 81: impl.natOf -/
@[simp] theorem c_keep81 (r : Nat) : cf.keep 81 r = tab81.getD r [] := rfl
@[simp] theorem c_pure81 : cf.pure 81 = true := rfl
@[simp] theorem c_pack81 : cf.pack 81 = .whole := rfl
@[simp] theorem c_wary81 : cf.wary 81 = false := rfl
@[simp] theorem c_clone81 : cf.clone 81 = none := rfl
@[simp] theorem k_out81 : kn.out 81 = .own [[some (.i .i64)]] := rfl
@[simp] theorem k_args81 : kn.args 81 = [[some (.i .i64)]] := rfl
@[simp] theorem k_nils81 : kn.nils 81 = fun _ => none := rfl
@[simp] theorem k_gc81 : kn.gc 81 = true := rfl
@[simp] theorem k_ali81 : kn.ali 81 = false := rfl
/-! 82: laws.eqIntS -/
@[simp] theorem c_keep82 (r : Nat) : cf.keep 82 r = tab82.getD r [] := rfl
@[simp] theorem c_pure82 : cf.pure 82 = true := rfl
@[simp] theorem c_pack82 : cf.pack 82 = .whole := rfl
@[simp] theorem c_wary82 : cf.wary 82 = false := rfl
@[simp] theorem c_clone82 : cf.clone 82 = none := rfl
@[simp] theorem k_out82 : kn.out 82 = .frz [] := rfl
@[simp] theorem k_args82 : kn.args 82 = [[some (.i .i64)], [some (.i .i64)]] := rfl
@[simp] theorem k_nils82 : kn.nils 82 = fun _ => none := rfl
@[simp] theorem k_gc82 : kn.gc 82 = true := rfl
@[simp] theorem k_ali82 : kn.ali 82 = false := rfl
/-! 83: laws.markIntS -/
@[simp] theorem c_keep83 (r : Nat) : cf.keep 83 r = tab83.getD r [] := rfl
@[simp] theorem c_pure83 : cf.pure 83 = false := rfl
@[simp] theorem c_pack83 : cf.pack 83 = .whole := rfl
@[simp] theorem c_wary83 : cf.wary 83 = false := rfl
@[simp] theorem c_clone83 : cf.clone 83 = none := rfl
@[simp] theorem k_out83 : kn.out 83 = .inl := rfl
@[simp] theorem k_args83 : kn.args 83 = [] := rfl
@[simp] theorem k_nils83 : kn.nils 83 = fun _ => none := rfl
@[simp] theorem k_gc83 : kn.gc 83 = false := rfl
@[simp] theorem k_ali83 : kn.ali 83 = false := rfl
/-! 84: laws.heldIntS -/
@[simp] theorem c_keep84 (r : Nat) : cf.keep 84 r = tab84.getD r [] := rfl
@[simp] theorem c_pure84 : cf.pure 84 = true := rfl
@[simp] theorem c_pack84 : cf.pack 84 = .whole := rfl
@[simp] theorem c_wary84 : cf.wary 84 = false := rfl
@[simp] theorem c_clone84 : cf.clone 84 = none := rfl
@[simp] theorem k_out84 : kn.out 84 = .frz [] := rfl
@[simp] theorem k_args84 : kn.args 84 = [[some (.i .i64)]] := rfl
@[simp] theorem k_nils84 : kn.nils 84 = fun _ => none := rfl
@[simp] theorem k_gc84 : kn.gc 84 = true := rfl
@[simp] theorem k_ali84 : kn.ali 84 = false := rfl
/-! 85: spec.l2of -/
@[simp] theorem c_keep85 (r : Nat) : cf.keep 85 r = tab85.getD r [] := rfl
@[simp] theorem c_pure85 : cf.pure 85 = true := rfl
@[simp] theorem c_pack85 : cf.pack 85 = .whole := rfl
@[simp] theorem c_wary85 : cf.wary 85 = false := rfl
@[simp] theorem c_clone85 : cf.clone 85 = none := rfl
@[simp] theorem k_out85 : kn.out 85 = .own [[some (.i .i64)]] := rfl
@[simp] theorem k_args85 : kn.args 85 = [] := rfl
@[simp] theorem k_nils85 : kn.nils 85 = nil85 := rfl
@[simp] theorem k_gc85 : kn.gc 85 = true := rfl
@[simp] theorem k_ali85 : kn.ali 85 = false := rfl
/-! 86: spec.l2small -/
@[simp] theorem c_keep86 (r : Nat) : cf.keep 86 r = tab86.getD r [] := rfl
@[simp] theorem c_pure86 : cf.pure 86 = true := rfl
@[simp] theorem c_pack86 : cf.pack 86 = .whole := rfl
@[simp] theorem c_wary86 : cf.wary 86 = false := rfl
@[simp] theorem c_clone86 : cf.clone 86 = none := rfl
@[simp] theorem k_out86 : kn.out 86 = .frz [[some (.i .i64)]] := rfl
@[simp] theorem k_args86 : kn.args 86 = [[some (.i .i64)]] := rfl
@[simp] theorem k_nils86 : kn.nils 86 = fun _ => none := rfl
@[simp] theorem k_gc86 : kn.gc 86 = true := rfl
@[simp] theorem k_ali86 : kn.ali 86 = false := rfl
/-! 87: slices.ContainsFunc[[]impl.Dy,impl.Dy] -/
@[simp] theorem c_keep87 (r : Nat) : cf.keep 87 r = tab87.getD r [] := rfl
@[simp] theorem c_pure87 : cf.pure 87 = true := rfl
@[simp] theorem c_pack87 : cf.pack 87 = .whole := rfl
@[simp] theorem c_wary87 : cf.wary 87 = false := rfl
@[simp] theorem c_clone87 : cf.clone 87 = none := rfl
@[simp] theorem k_out87 : kn.out 87 = .frz [] := rfl
@[simp] theorem k_args87 : kn.args 87 = [[some (.s 3)]] := rfl
@[simp] theorem k_nils87 : kn.nils 87 = fun _ => none := rfl
@[simp] theorem k_gc87 : kn.gc 87 = true := rfl
@[simp] theorem k_ali87 : kn.ali 87 = false := rfl
/-! 88: impl.areAll[impl.Dy]$1 -/
@[simp] theorem c_keep88 (r : Nat) : cf.keep 88 r = tab88.getD r [] := rfl
@[simp] theorem c_pure88 : cf.pure 88 = true := rfl
@[simp] theorem c_pack88 : cf.pack 88 = .whole := rfl
@[simp] theorem c_wary88 : cf.wary 88 = false := rfl
@[simp] theorem c_clone88 : cf.clone 88 = none := rfl
@[simp] theorem k_out88 : kn.out 88 = .frz [] := rfl
@[simp] theorem k_args88 : kn.args 88 = [[none, some (.i .i64)]] := rfl
@[simp] theorem k_nils88 : kn.nils 88 = fun _ => none := rfl
@[simp] theorem k_gc88 : kn.gc 88 = true := rfl
@[simp] theorem k_ali88 : kn.ali 88 = false := rfl
/-! 89: impl.WholeOk -/
@[simp] theorem c_keep89 (r : Nat) : cf.keep 89 r = tab89.getD r [] := rfl
@[simp] theorem c_pure89 : cf.pure 89 = true := rfl
@[simp] theorem c_pack89 : cf.pack 89 = .whole := rfl
@[simp] theorem c_wary89 : cf.wary 89 = false := rfl
@[simp] theorem c_clone89 : cf.clone 89 = none := rfl
@[simp] theorem k_out89 : kn.out 89 = .frz [] := rfl
@[simp] theorem k_args89 : kn.args 89 = [[none, some (.i .i64)]] := rfl
@[simp] theorem k_nils89 : kn.nils 89 = fun _ => none := rfl
@[simp] theorem k_gc89 : kn.gc 89 = true := rfl
@[simp] theorem k_ali89 : kn.ali 89 = false := rfl
/-! 90: impl.bitOf -/
@[simp] theorem c_keep90 (r : Nat) : cf.keep 90 r = tab90.getD r [] := rfl
@[simp] theorem c_pure90 : cf.pure 90 = true := rfl
@[simp] theorem c_pack90 : cf.pack 90 = .whole := rfl
@[simp] theorem c_wary90 : cf.wary 90 = false := rfl
@[simp] theorem c_clone90 : cf.clone 90 = none := rfl
@[simp] theorem k_out90 : kn.out 90 = .frz [] := rfl
@[simp] theorem k_args90 : kn.args 90 = [[some (.i .i64)]] := rfl
@[simp] theorem k_nils90 : kn.nils 90 = fun _ => none := rfl
@[simp] theorem k_gc90 : kn.gc 90 = true := rfl
@[simp] theorem k_ali90 : kn.ali 90 = false := rfl
/-! 91: impl.up -/
@[simp] theorem c_keep91 (r : Nat) : cf.keep 91 r = tab91.getD r [] := rfl
@[simp] theorem c_pure91 : cf.pure 91 = true := rfl
@[simp] theorem c_pack91 : cf.pack 91 = .whole := rfl
@[simp] theorem c_wary91 : cf.wary 91 = false := rfl
@[simp] theorem c_clone91 : cf.clone 91 = none := rfl
@[simp] theorem k_out91 : kn.out 91 = .own [[some (.i .i64)]] := rfl
@[simp] theorem k_args91 : kn.args 91 = [[some (.i .i64)]] := rfl
@[simp] theorem k_nils91 : kn.nils 91 = nil91 := rfl
@[simp] theorem k_gc91 : kn.gc 91 = true := rfl
@[simp] theorem k_ali91 : kn.ali 91 = false := rfl
/-! 92: impl.compare -/
@[simp] theorem c_keep92 (r : Nat) : cf.keep 92 r = tab92.getD r [] := rfl
@[simp] theorem c_pure92 : cf.pure 92 = true := rfl
@[simp] theorem c_pack92 : cf.pack 92 = .whole := rfl
@[simp] theorem c_wary92 : cf.wary 92 = false := rfl
@[simp] theorem c_clone92 : cf.clone 92 = none := rfl
@[simp] theorem k_out92 : kn.out 92 = .frz [] := rfl
@[simp] theorem k_args92 : kn.args 92 = [[some (.i .i64)], [some (.i .i64)]] := rfl
@[simp] theorem k_nils92 : kn.nils 92 = fun _ => none := rfl
@[simp] theorem k_gc92 : kn.gc 92 = true := rfl
@[simp] theorem k_ali92 : kn.ali 92 = false := rfl
/-! 93: math/bits.TrailingZeros -/
@[simp] theorem c_keep93 (r : Nat) : cf.keep 93 r = tab93.getD r [] := rfl
@[simp] theorem c_pure93 : cf.pure 93 = true := rfl
@[simp] theorem c_pack93 : cf.pack 93 = .whole := rfl
@[simp] theorem c_wary93 : cf.wary 93 = false := rfl
@[simp] theorem c_clone93 : cf.clone 93 = none := rfl
@[simp] theorem k_out93 : kn.out 93 = .frz [] := rfl
@[simp] theorem k_args93 : kn.args 93 = [] := rfl
@[simp] theorem k_nils93 : kn.nils 93 = fun _ => none := rfl
@[simp] theorem k_gc93 : kn.gc 93 = true := rfl
@[simp] theorem k_ali93 : kn.ali 93 = false := rfl
/-! 94: slices.Clone[[]int,int] -/
@[simp] theorem c_keep94 (r : Nat) : cf.keep 94 r = tab94.getD r [] := rfl
@[simp] theorem c_pure94 : cf.pure 94 = true := rfl
@[simp] theorem c_pack94 : cf.pack 94 = .pack [.i64] := rfl
@[simp] theorem c_wary94 : cf.wary 94 = false := rfl
@[simp] theorem c_clone94 : cf.clone 94 = some .i64 := rfl
@[simp] theorem k_out94 : kn.out 94 = .own [[some (.i .i64)]] := rfl
@[simp] theorem k_args94 : kn.args 94 = [[some (.i .i64)]] := rfl
@[simp] theorem k_nils94 : kn.nils 94 = nil94 := rfl
@[simp] theorem k_gc94 : kn.gc 94 = true := rfl
@[simp] theorem k_ali94 : kn.ali 94 = false := rfl
/-! 95: slices.IndexFunc[[]impl.Dy,impl.Dy] -/
@[simp] theorem c_keep95 (r : Nat) : cf.keep 95 r = tab95.getD r [] := rfl
@[simp] theorem c_pure95 : cf.pure 95 = true := rfl
@[simp] theorem c_pack95 : cf.pack 95 = .whole := rfl
@[simp] theorem c_wary95 : cf.wary 95 = false := rfl
@[simp] theorem c_clone95 : cf.clone 95 = none := rfl
@[simp] theorem k_out95 : kn.out 95 = .frz [] := rfl
@[simp] theorem k_args95 : kn.args 95 = [[some (.s 3)]] := rfl
@[simp] theorem k_nils95 : kn.nils 95 = fun _ => none := rfl
@[simp] theorem k_gc95 : kn.gc 95 = true := rfl
@[simp] theorem k_ali95 : kn.ali 95 = false := rfl
/-! 96: impl.NatOk -/
@[simp] theorem c_keep96 (r : Nat) : cf.keep 96 r = tab96.getD r [] := rfl
@[simp] theorem c_pure96 : cf.pure 96 = true := rfl
@[simp] theorem c_pack96 : cf.pack 96 = .whole := rfl
@[simp] theorem c_wary96 : cf.wary 96 = false := rfl
@[simp] theorem c_clone96 : cf.clone 96 = none := rfl
@[simp] theorem k_out96 : kn.out 96 = .frz [] := rfl
@[simp] theorem k_args96 : kn.args 96 = [[some (.i .i64)]] := rfl
@[simp] theorem k_nils96 : kn.nils 96 = fun _ => none := rfl
@[simp] theorem k_gc96 : kn.gc 96 = true := rfl
@[simp] theorem k_ali96 : kn.ali 96 = false := rfl
/-! 97: cmp.Compare[int] -/
@[simp] theorem c_keep97 (r : Nat) : cf.keep 97 r = tab97.getD r [] := rfl
@[simp] theorem c_pure97 : cf.pure 97 = true := rfl
@[simp] theorem c_pack97 : cf.pack 97 = .whole := rfl
@[simp] theorem c_wary97 : cf.wary 97 = false := rfl
@[simp] theorem c_clone97 : cf.clone 97 = none := rfl
@[simp] theorem k_out97 : kn.out 97 = .frz [] := rfl
@[simp] theorem k_args97 : kn.args 97 = [] := rfl
@[simp] theorem k_nils97 : kn.nils 97 = fun _ => none := rfl
@[simp] theorem k_gc97 : kn.gc 97 = true := rfl
@[simp] theorem k_ali97 : kn.ali 97 = false := rfl
/-! 98: math/bits.TrailingZeros32 -/
@[simp] theorem c_keep98 (r : Nat) : cf.keep 98 r = tab98.getD r [] := rfl
@[simp] theorem c_pure98 : cf.pure 98 = true := rfl
@[simp] theorem c_pack98 : cf.pack 98 = .whole := rfl
@[simp] theorem c_wary98 : cf.wary 98 = false := rfl
@[simp] theorem c_clone98 : cf.clone 98 = none := rfl
@[simp] theorem k_out98 : kn.out 98 = .frz [] := rfl
@[simp] theorem k_args98 : kn.args 98 = [] := rfl
@[simp] theorem k_nils98 : kn.nils 98 = fun _ => none := rfl
@[simp] theorem k_gc98 : kn.gc 98 = true := rfl
@[simp] theorem k_ali98 : kn.ali 98 = false := rfl
/-! 99: math/bits.TrailingZeros64 -/
@[simp] theorem c_keep99 (r : Nat) : cf.keep 99 r = tab99.getD r [] := rfl
@[simp] theorem c_pure99 : cf.pure 99 = true := rfl
@[simp] theorem c_pack99 : cf.pack 99 = .whole := rfl
@[simp] theorem c_wary99 : cf.wary 99 = false := rfl
@[simp] theorem c_clone99 : cf.clone 99 = none := rfl
@[simp] theorem k_out99 : kn.out 99 = .frz [] := rfl
@[simp] theorem k_args99 : kn.args 99 = [] := rfl
@[simp] theorem k_nils99 : kn.nils 99 = fun _ => none := rfl
@[simp] theorem k_gc99 : kn.gc 99 = true := rfl
@[simp] theorem k_ali99 : kn.ali 99 = false := rfl
/-! 100: impl.areAll[int] -/
@[simp] theorem c_keep100 (r : Nat) : cf.keep 100 r = tab100.getD r [] := rfl
@[simp] theorem c_pure100 : cf.pure 100 = true := rfl
@[simp] theorem c_pack100 : cf.pack 100 = .whole := rfl
@[simp] theorem c_wary100 : cf.wary 100 = false := rfl
@[simp] theorem c_clone100 : cf.clone 100 = none := rfl
@[simp] theorem k_out100 : kn.out 100 = .frz [] := rfl
@[simp] theorem k_args100 : kn.args 100 = [[some (.i .i64)]] := rfl
@[simp] theorem k_nils100 : kn.nils 100 = fun _ => none := rfl
@[simp] theorem k_gc100 : kn.gc 100 = true := rfl
@[simp] theorem k_ali100 : kn.ali 100 = false := rfl
/-! 101: impl.NatOk$1 -/
@[simp] theorem c_keep101 (r : Nat) : cf.keep 101 r = tab101.getD r [] := rfl
@[simp] theorem c_pure101 : cf.pure 101 = true := rfl
@[simp] theorem c_pack101 : cf.pack 101 = .whole := rfl
@[simp] theorem c_wary101 : cf.wary 101 = false := rfl
@[simp] theorem c_clone101 : cf.clone 101 = none := rfl
@[simp] theorem k_out101 : kn.out 101 = .frz [] := rfl
@[simp] theorem k_args101 : kn.args 101 = [] := rfl
@[simp] theorem k_nils101 : kn.nils 101 = fun _ => none := rfl
@[simp] theorem k_gc101 : kn.gc 101 = true := rfl
@[simp] theorem k_ali101 : kn.ali 101 = false := rfl
/-! 102: cmp.isNaN[int] -/
@[simp] theorem c_keep102 (r : Nat) : cf.keep 102 r = tab102.getD r [] := rfl
@[simp] theorem c_pure102 : cf.pure 102 = true := rfl
@[simp] theorem c_pack102 : cf.pack 102 = .whole := rfl
@[simp] theorem c_wary102 : cf.wary 102 = false := rfl
@[simp] theorem c_clone102 : cf.clone 102 = none := rfl
@[simp] theorem k_out102 : kn.out 102 = .frz [] := rfl
@[simp] theorem k_args102 : kn.args 102 = [] := rfl
@[simp] theorem k_nils102 : kn.nils 102 = fun _ => none := rfl
@[simp] theorem k_gc102 : kn.gc 102 = true := rfl
@[simp] theorem k_ali102 : kn.ali 102 = false := rfl
/-! 103: slices.ContainsFunc[[]int,int] -/
@[simp] theorem c_keep103 (r : Nat) : cf.keep 103 r = tab103.getD r [] := rfl
@[simp] theorem c_pure103 : cf.pure 103 = true := rfl
@[simp] theorem c_pack103 : cf.pack 103 = .whole := rfl
@[simp] theorem c_wary103 : cf.wary 103 = false := rfl
@[simp] theorem c_clone103 : cf.clone 103 = none := rfl
@[simp] theorem k_out103 : kn.out 103 = .frz [] := rfl
@[simp] theorem k_args103 : kn.args 103 = [[some (.i .i64)]] := rfl
@[simp] theorem k_nils103 : kn.nils 103 = fun _ => none := rfl
@[simp] theorem k_gc103 : kn.gc 103 = true := rfl
@[simp] theorem k_ali103 : kn.ali 103 = false := rfl
/-! 104: impl.areAll[int]$1 -/
@[simp] theorem c_keep104 (r : Nat) : cf.keep 104 r = tab104.getD r [] := rfl
@[simp] theorem c_pure104 : cf.pure 104 = true := rfl
@[simp] theorem c_pack104 : cf.pack 104 = .whole := rfl
@[simp] theorem c_wary104 : cf.wary 104 = false := rfl
@[simp] theorem c_clone104 : cf.clone 104 = none := rfl
@[simp] theorem k_out104 : kn.out 104 = .frz [] := rfl
@[simp] theorem k_args104 : kn.args 104 = [] := rfl
@[simp] theorem k_nils104 : kn.nils 104 = fun _ => none := rfl
@[simp] theorem k_gc104 : kn.gc 104 = true := rfl
@[simp] theorem k_ali104 : kn.ali 104 = false := rfl
/-! 105: slices.IndexFunc[[]int,int] -/
@[simp] theorem c_keep105 (r : Nat) : cf.keep 105 r = tab105.getD r [] := rfl
@[simp] theorem c_pure105 : cf.pure 105 = true := rfl
@[simp] theorem c_pack105 : cf.pack 105 = .whole := rfl
@[simp] theorem c_wary105 : cf.wary 105 = false := rfl
@[simp] theorem c_clone105 : cf.clone 105 = none := rfl
@[simp] theorem k_out105 : kn.out 105 = .frz [] := rfl
@[simp] theorem k_args105 : kn.args 105 = [[some (.i .i64)]] := rfl
@[simp] theorem k_nils105 : kn.nils 105 = fun _ => none := rfl
@[simp] theorem k_gc105 : kn.gc 105 = true := rfl
@[simp] theorem k_ali105 : kn.ali 105 = false := rfl
theorem kept0 : ((impL ++ aliL).all fun f => (match kn.out f with | .inl => true | _ => false) && !kn.gc f) = true := by kernel_rfl
theorem kept1 (f : FuncId) : (cf.pure f = true ∧ kn.ali f = false) ∨ (kn.out f = .inl ∧ kn.gc f = false) := by
  cases hb : (impL ++ aliL).contains f with
  | false =>
    have h1 : ¬ f ∈ impL ++ aliL := fun h => by rw [List.contains_iff_mem.2 h] at hb; simp at hb
    rw [List.mem_append] at h1
    refine .inl ⟨?_, ?_⟩
    · show (!impL.contains f) = true
      cases h2 : impL.contains f with
      | false => rfl
      | true => exact absurd (.inl (List.contains_iff_mem.1 h2)) h1
    · show aliL.contains f = false
      cases h2 : aliL.contains f with
      | false => rfl
      | true => exact absurd (.inr (List.contains_iff_mem.1 h2)) h1
  | true =>
    have h := List.all_eq_true.1 kept0 f (List.contains_iff_mem.1 hb)
    rw [Bool.and_eq_true] at h
    refine .inr ⟨?_, by simpa using h.2⟩
    cases ho : kn.out f with
    | inl => rfl
    | own ks => rw [ho] at h; simp at h
    | frz ks => rw [ho] at h; simp at h
theorem kept : Kept kn where
  gc f hg := (kept1 f).resolve_right fun h => by rw [h.2] at hg; simp at hg
  out f := (kept1 f).symm.imp (fun h ks e => by rw [h.1] at e; cases e) id
  own f := (kept1 f).symm.imp (fun h ks e => by rw [h.1] at e; cases e) id
/-- What the proof of the engine asks of a function. -/
def staticF (cf : Cfg) (f : FuncId) (m : PM) (fn : Func) : Bool := match m with
  | .no => true
  | _ => match fn.body with
    | some c => codeOk cf f fn.ntmps c && !(fn.name == "runtime.NumGoroutine")
    | none => true
theorem static_all : ((List.range Tryz.prog.funcs.size).all fun f => Tryz.prog.funcs[f]?.all (staticF cf f (cf.pack f))) = true := by kernel_rfl
theorem static : Static Tryz.prog cf := fun f fn c hf hb hno => by
  have h := List.all_eq_true.1 static_all f (List.mem_range.2 (Array.getElem?_eq_some_iff.1 hf).1)
  rw [hf] at h
  simp only [Option.all_some] at h
  unfold staticF at h
  split at h
  · rename_i e; exact absurd e hno
  · rw [hb] at h; simpa using h
@[simp] theorem c_rounds : cf.rounds = 4294967296 := rfl
end Go.Eng
