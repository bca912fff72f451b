/- The value engine: the tables of this seat: types, and of each function what its regions and its calls leave. Printed by a program of this session. No conditions. -/
import Derived.Test.YtlejlpooblffbaaDoorProg
import Derived.Test.YtlejlpooblffbaaDoorVb
import Derived.KernelRfl
set_option linter.unusedVariables false
set_option linter.unusedSimpArgs false
namespace Go.Eng
open Go.Proofs
set_option maxRecDepth 100000
@[simp] theorem ty_u_3 : Tryd.prog.underlying 3 = some (.int .i64) := by kernel_rfl
@[simp] theorem ty_k_3 : kindOf Tryd.prog 3 = some .i64 := by kernel_rfl
@[simp] theorem ty_a_3 : aggT Tryd.prog 3 = some false := by kernel_rfl
@[simp] theorem ty_s_3 : sizeT Tryd.prog 3 = some 1 := by kernel_rfl
@[simp] theorem ty_b_3 : bytesT Tryd.prog 3 = some 8 := by kernel_rfl
@[simp] theorem ty_z_3 : zeroT Tryd.prog 3 = some (.c (.int .i64 0)) := by kernel_rfl
@[simp] theorem ty_u_4 : Tryd.prog.underlying 4 = some (.bool) := by kernel_rfl
@[simp] theorem ty_k_4 : kindOf Tryd.prog 4 = none := by kernel_rfl
@[simp] theorem ty_a_4 : aggT Tryd.prog 4 = some false := by kernel_rfl
@[simp] theorem ty_s_4 : sizeT Tryd.prog 4 = some 1 := by kernel_rfl
@[simp] theorem ty_b_4 : bytesT Tryd.prog 4 = some 1 := by kernel_rfl
@[simp] theorem ty_z_4 : zeroT Tryd.prog 4 = some (.c (.bool false)) := by kernel_rfl
@[simp] theorem ty_u_5 : Tryd.prog.underlying 5 = some (.int .u8) := by kernel_rfl
@[simp] theorem ty_k_5 : kindOf Tryd.prog 5 = some .u8 := by kernel_rfl
@[simp] theorem ty_a_5 : aggT Tryd.prog 5 = some false := by kernel_rfl
@[simp] theorem ty_s_5 : sizeT Tryd.prog 5 = some 1 := by kernel_rfl
@[simp] theorem ty_b_5 : bytesT Tryd.prog 5 = some 1 := by kernel_rfl
@[simp] theorem ty_z_5 : zeroT Tryd.prog 5 = some (.c (.int .u8 0)) := by kernel_rfl
@[simp] theorem ty_u_22 : Tryd.prog.underlying 22 = some (.slice 54) := by kernel_rfl
@[simp] theorem ty_k_22 : kindOf Tryd.prog 22 = none := by kernel_rfl
@[simp] theorem ty_a_22 : aggT Tryd.prog 22 = some false := by kernel_rfl
@[simp] theorem ty_s_22 : sizeT Tryd.prog 22 = some 1 := by kernel_rfl
@[simp] theorem ty_b_22 : bytesT Tryd.prog 22 = some 24 := by kernel_rfl
@[simp] theorem ty_e_22 : elemS Tryd.prog 22 = some 54 := by kernel_rfl
@[simp] theorem ty_z_22 : zeroT Tryd.prog 22 = some (.c (.nil)) := by kernel_rfl
@[simp] theorem ty_k_24 : kindOf Tryd.prog 24 = none := by kernel_rfl
@[simp] theorem ty_a_24 : aggT Tryd.prog 24 = some true := by kernel_rfl
@[simp] theorem ty_s_24 : sizeT Tryd.prog 24 = some 2 := by kernel_rfl
@[simp] theorem ty_b_24 : bytesT Tryd.prog 24 = some 32 := by kernel_rfl
@[simp] theorem ty_z_24 : zeroT Tryd.prog 24 = some (.agg [.int .i64 0, .nil]) := by kernel_rfl
@[simp] theorem ty_f_24_0 : fieldOf Tryd.prog 24 0 = some (0, 1, false) := by kernel_rfl
@[simp] theorem ty_f_24_1 : fieldOf Tryd.prog 24 1 = some (1, 1, false) := by kernel_rfl
@[simp] theorem ty_p_24 : placesB Tryd.prog 24 = some [(0, 1), (1, 1)] := by kernel_rfl
@[simp] theorem ty_u_26 : Tryd.prog.underlying 26 = some (.slice 3) := by kernel_rfl
@[simp] theorem ty_k_26 : kindOf Tryd.prog 26 = none := by kernel_rfl
@[simp] theorem ty_a_26 : aggT Tryd.prog 26 = some false := by kernel_rfl
@[simp] theorem ty_s_26 : sizeT Tryd.prog 26 = some 1 := by kernel_rfl
@[simp] theorem ty_b_26 : bytesT Tryd.prog 26 = some 24 := by kernel_rfl
@[simp] theorem ty_e_26 : elemS Tryd.prog 26 = some 3 := by kernel_rfl
@[simp] theorem ty_z_26 : zeroT Tryd.prog 26 = some (.c (.nil)) := by kernel_rfl
@[simp] theorem ty_k_28 : kindOf Tryd.prog 28 = none := by kernel_rfl
@[simp] theorem ty_a_28 : aggT Tryd.prog 28 = some true := by kernel_rfl
@[simp] theorem ty_s_28 : sizeT Tryd.prog 28 = some 1 := by kernel_rfl
@[simp] theorem ty_b_28 : bytesT Tryd.prog 28 = some 24 := by kernel_rfl
@[simp] theorem ty_z_28 : zeroT Tryd.prog 28 = some (.agg [.nil]) := by kernel_rfl
@[simp] theorem ty_f_28_0 : fieldOf Tryd.prog 28 0 = some (0, 1, false) := by kernel_rfl
@[simp] theorem ty_p_28 : placesB Tryd.prog 28 = some [(0, 1)] := by kernel_rfl
@[simp] theorem ty_k_30 : kindOf Tryd.prog 30 = none := by kernel_rfl
@[simp] theorem ty_a_30 : aggT Tryd.prog 30 = some true := by kernel_rfl
@[simp] theorem ty_s_30 : sizeT Tryd.prog 30 = some 2 := by kernel_rfl
@[simp] theorem ty_b_30 : bytesT Tryd.prog 30 = some 32 := by kernel_rfl
@[simp] theorem ty_z_30 : zeroT Tryd.prog 30 = some (.agg [.bool false, .nil]) := by kernel_rfl
@[simp] theorem ty_f_30_0 : fieldOf Tryd.prog 30 0 = some (0, 1, false) := by kernel_rfl
@[simp] theorem ty_f_30_1 : fieldOf Tryd.prog 30 1 = some (1, 1, true) := by kernel_rfl
@[simp] theorem ty_p_30 : placesB Tryd.prog 30 = some [(0, 1), (1, 1)] := by kernel_rfl
@[simp] theorem ty_k_32 : kindOf Tryd.prog 32 = none := by kernel_rfl
@[simp] theorem ty_a_32 : aggT Tryd.prog 32 = some true := by kernel_rfl
@[simp] theorem ty_s_32 : sizeT Tryd.prog 32 = some 3 := by kernel_rfl
@[simp] theorem ty_b_32 : bytesT Tryd.prog 32 = some 40 := by kernel_rfl
@[simp] theorem ty_z_32 : zeroT Tryd.prog 32 = some (.agg [.bool false, .nil, .int .i64 0]) := by kernel_rfl
@[simp] theorem ty_f_32_0 : fieldOf Tryd.prog 32 0 = some (0, 2, true) := by kernel_rfl
@[simp] theorem ty_f_32_1 : fieldOf Tryd.prog 32 1 = some (2, 1, false) := by kernel_rfl
@[simp] theorem ty_p_32 : placesB Tryd.prog 32 = some [(0, 2), (2, 1)] := by kernel_rfl
@[simp] theorem ty_u_35 : Tryd.prog.underlying 35 = some (.slice 32) := by kernel_rfl
@[simp] theorem ty_k_35 : kindOf Tryd.prog 35 = none := by kernel_rfl
@[simp] theorem ty_a_35 : aggT Tryd.prog 35 = some false := by kernel_rfl
@[simp] theorem ty_s_35 : sizeT Tryd.prog 35 = some 1 := by kernel_rfl
@[simp] theorem ty_b_35 : bytesT Tryd.prog 35 = some 24 := by kernel_rfl
@[simp] theorem ty_e_35 : elemS Tryd.prog 35 = some 32 := by kernel_rfl
@[simp] theorem ty_z_35 : zeroT Tryd.prog 35 = some (.c (.nil)) := by kernel_rfl
@[simp] theorem ty_k_37 : kindOf Tryd.prog 37 = none := by kernel_rfl
@[simp] theorem ty_a_37 : aggT Tryd.prog 37 = some true := by kernel_rfl
@[simp] theorem ty_s_37 : sizeT Tryd.prog 37 = some 2 := by kernel_rfl
@[simp] theorem ty_b_37 : bytesT Tryd.prog 37 = some 32 := by kernel_rfl
@[simp] theorem ty_z_37 : zeroT Tryd.prog 37 = some (.agg [.int .i64 0, .nil]) := by kernel_rfl
@[simp] theorem ty_f_37_0 : fieldOf Tryd.prog 37 0 = some (0, 1, false) := by kernel_rfl
@[simp] theorem ty_f_37_1 : fieldOf Tryd.prog 37 1 = some (1, 1, false) := by kernel_rfl
@[simp] theorem ty_p_37 : placesB Tryd.prog 37 = some [(0, 1), (1, 1)] := by kernel_rfl
@[simp] theorem ty_k_46 : kindOf Tryd.prog 46 = none := by kernel_rfl
@[simp] theorem ty_a_46 : aggT Tryd.prog 46 = some false := by kernel_rfl
@[simp] theorem ty_s_46 : sizeT Tryd.prog 46 = some 1 := by kernel_rfl
@[simp] theorem ty_b_46 : bytesT Tryd.prog 46 = some 8 := by kernel_rfl
@[simp] theorem ty_k_50 : kindOf Tryd.prog 50 = none := by kernel_rfl
@[simp] theorem ty_a_50 : aggT Tryd.prog 50 = some true := by kernel_rfl
@[simp] theorem ty_s_50 : sizeT Tryd.prog 50 = some 1 := by kernel_rfl
@[simp] theorem ty_b_50 : bytesT Tryd.prog 50 = some 24 := by kernel_rfl
@[simp] theorem ty_z_50 : zeroT Tryd.prog 50 = some (.agg [.nil]) := by kernel_rfl
@[simp] theorem ty_f_50_0 : fieldOf Tryd.prog 50 0 = some (0, 1, false) := by kernel_rfl
@[simp] theorem ty_p_50 : placesB Tryd.prog 50 = some [(0, 1)] := by kernel_rfl
@[simp] theorem ty_k_52 : kindOf Tryd.prog 52 = none := by kernel_rfl
@[simp] theorem ty_a_52 : aggT Tryd.prog 52 = some true := by kernel_rfl
@[simp] theorem ty_s_52 : sizeT Tryd.prog 52 = some 2 := by kernel_rfl
@[simp] theorem ty_b_52 : bytesT Tryd.prog 52 = some 32 := by kernel_rfl
@[simp] theorem ty_z_52 : zeroT Tryd.prog 52 = some (.agg [.bool false, .nil]) := by kernel_rfl
@[simp] theorem ty_f_52_0 : fieldOf Tryd.prog 52 0 = some (0, 1, false) := by kernel_rfl
@[simp] theorem ty_f_52_1 : fieldOf Tryd.prog 52 1 = some (1, 1, true) := by kernel_rfl
@[simp] theorem ty_p_52 : placesB Tryd.prog 52 = some [(0, 1), (1, 1)] := by kernel_rfl
@[simp] theorem ty_k_54 : kindOf Tryd.prog 54 = none := by kernel_rfl
@[simp] theorem ty_a_54 : aggT Tryd.prog 54 = some true := by kernel_rfl
@[simp] theorem ty_s_54 : sizeT Tryd.prog 54 = some 3 := by kernel_rfl
@[simp] theorem ty_b_54 : bytesT Tryd.prog 54 = some 40 := by kernel_rfl
@[simp] theorem ty_z_54 : zeroT Tryd.prog 54 = some (.agg [.bool false, .nil, .int .i64 0]) := by kernel_rfl
@[simp] theorem ty_f_54_0 : fieldOf Tryd.prog 54 0 = some (0, 2, true) := by kernel_rfl
@[simp] theorem ty_f_54_1 : fieldOf Tryd.prog 54 1 = some (2, 1, false) := by kernel_rfl
@[simp] theorem ty_p_54 : placesB Tryd.prog 54 = some [(0, 2), (2, 1)] := by kernel_rfl
@[simp] theorem ty_u_59 : Tryd.prog.underlying 59 = some (.slice 125) := by kernel_rfl
@[simp] theorem ty_k_59 : kindOf Tryd.prog 59 = none := by kernel_rfl
@[simp] theorem ty_a_59 : aggT Tryd.prog 59 = some false := by kernel_rfl
@[simp] theorem ty_s_59 : sizeT Tryd.prog 59 = some 1 := by kernel_rfl
@[simp] theorem ty_b_59 : bytesT Tryd.prog 59 = some 24 := by kernel_rfl
@[simp] theorem ty_e_59 : elemS Tryd.prog 59 = some 125 := by kernel_rfl
@[simp] theorem ty_z_59 : zeroT Tryd.prog 59 = some (.c (.nil)) := by kernel_rfl
@[simp] theorem ty_k_61 : kindOf Tryd.prog 61 = none := by kernel_rfl
@[simp] theorem ty_a_61 : aggT Tryd.prog 61 = some true := by kernel_rfl
@[simp] theorem ty_s_61 : sizeT Tryd.prog 61 = some 2 := by kernel_rfl
@[simp] theorem ty_b_61 : bytesT Tryd.prog 61 = some 32 := by kernel_rfl
@[simp] theorem ty_z_61 : zeroT Tryd.prog 61 = some (.agg [.int .i64 0, .nil]) := by kernel_rfl
@[simp] theorem ty_f_61_0 : fieldOf Tryd.prog 61 0 = some (0, 1, false) := by kernel_rfl
@[simp] theorem ty_f_61_1 : fieldOf Tryd.prog 61 1 = some (1, 1, false) := by kernel_rfl
@[simp] theorem ty_p_61 : placesB Tryd.prog 61 = some [(0, 1), (1, 1)] := by kernel_rfl
@[simp] theorem ty_k_72 : kindOf Tryd.prog 72 = none := by kernel_rfl
@[simp] theorem ty_a_72 : aggT Tryd.prog 72 = some true := by kernel_rfl
@[simp] theorem ty_s_72 : sizeT Tryd.prog 72 = some 3 := by kernel_rfl
@[simp] theorem ty_b_72 : bytesT Tryd.prog 72 = some 40 := by kernel_rfl
@[simp] theorem ty_z_72 : zeroT Tryd.prog 72 = some (.agg [.bool false, .nil, .int .i64 0]) := by kernel_rfl
@[simp] theorem ty_f_72_0 : fieldOf Tryd.prog 72 0 = some (0, 1, false) := by kernel_rfl
@[simp] theorem ty_f_72_1 : fieldOf Tryd.prog 72 1 = some (1, 1, false) := by kernel_rfl
@[simp] theorem ty_f_72_2 : fieldOf Tryd.prog 72 2 = some (2, 1, false) := by kernel_rfl
@[simp] theorem ty_p_72 : placesB Tryd.prog 72 = some [(0, 1), (1, 1), (2, 1)] := by kernel_rfl
@[simp] theorem ty_u_73 : Tryd.prog.underlying 73 = some (.slice 72) := by kernel_rfl
@[simp] theorem ty_k_73 : kindOf Tryd.prog 73 = none := by kernel_rfl
@[simp] theorem ty_a_73 : aggT Tryd.prog 73 = some false := by kernel_rfl
@[simp] theorem ty_s_73 : sizeT Tryd.prog 73 = some 1 := by kernel_rfl
@[simp] theorem ty_b_73 : bytesT Tryd.prog 73 = some 24 := by kernel_rfl
@[simp] theorem ty_e_73 : elemS Tryd.prog 73 = some 72 := by kernel_rfl
@[simp] theorem ty_z_73 : zeroT Tryd.prog 73 = some (.c (.nil)) := by kernel_rfl
@[simp] theorem ty_k_75 : kindOf Tryd.prog 75 = none := by kernel_rfl
@[simp] theorem ty_a_75 : aggT Tryd.prog 75 = some true := by kernel_rfl
@[simp] theorem ty_s_75 : sizeT Tryd.prog 75 = some 2 := by kernel_rfl
@[simp] theorem ty_b_75 : bytesT Tryd.prog 75 = some 32 := by kernel_rfl
@[simp] theorem ty_z_75 : zeroT Tryd.prog 75 = some (.agg [.int .i64 0, .nil]) := by kernel_rfl
@[simp] theorem ty_f_75_0 : fieldOf Tryd.prog 75 0 = some (0, 1, false) := by kernel_rfl
@[simp] theorem ty_f_75_1 : fieldOf Tryd.prog 75 1 = some (1, 1, false) := by kernel_rfl
@[simp] theorem ty_p_75 : placesB Tryd.prog 75 = some [(0, 1), (1, 1)] := by kernel_rfl
@[simp] theorem ty_k_77 : kindOf Tryd.prog 77 = none := by kernel_rfl
@[simp] theorem ty_a_77 : aggT Tryd.prog 77 = some false := by kernel_rfl
@[simp] theorem ty_s_77 : sizeT Tryd.prog 77 = some 1 := by kernel_rfl
@[simp] theorem ty_b_77 : bytesT Tryd.prog 77 = some 8 := by kernel_rfl
@[simp] theorem ty_k_92 : kindOf Tryd.prog 92 = none := by kernel_rfl
@[simp] theorem ty_a_92 : aggT Tryd.prog 92 = some false := by kernel_rfl
@[simp] theorem ty_s_92 : sizeT Tryd.prog 92 = some 1 := by kernel_rfl
@[simp] theorem ty_b_92 : bytesT Tryd.prog 92 = some 8 := by kernel_rfl
@[simp] theorem ty_u_99 : Tryd.prog.underlying 99 = some (.slice 127) := by kernel_rfl
@[simp] theorem ty_k_99 : kindOf Tryd.prog 99 = none := by kernel_rfl
@[simp] theorem ty_a_99 : aggT Tryd.prog 99 = some false := by kernel_rfl
@[simp] theorem ty_s_99 : sizeT Tryd.prog 99 = some 1 := by kernel_rfl
@[simp] theorem ty_b_99 : bytesT Tryd.prog 99 = some 24 := by kernel_rfl
@[simp] theorem ty_e_99 : elemS Tryd.prog 99 = some 127 := by kernel_rfl
@[simp] theorem ty_z_99 : zeroT Tryd.prog 99 = some (.c (.nil)) := by kernel_rfl
@[simp] theorem ty_k_101 : kindOf Tryd.prog 101 = none := by kernel_rfl
@[simp] theorem ty_a_101 : aggT Tryd.prog 101 = some true := by kernel_rfl
@[simp] theorem ty_s_101 : sizeT Tryd.prog 101 = some 2 := by kernel_rfl
@[simp] theorem ty_b_101 : bytesT Tryd.prog 101 = some 32 := by kernel_rfl
@[simp] theorem ty_z_101 : zeroT Tryd.prog 101 = some (.agg [.int .i64 0, .nil]) := by kernel_rfl
@[simp] theorem ty_f_101_0 : fieldOf Tryd.prog 101 0 = some (0, 1, false) := by kernel_rfl
@[simp] theorem ty_f_101_1 : fieldOf Tryd.prog 101 1 = some (1, 1, false) := by kernel_rfl
@[simp] theorem ty_p_101 : placesB Tryd.prog 101 = some [(0, 1), (1, 1)] := by kernel_rfl
@[simp] theorem ty_k_125 : kindOf Tryd.prog 125 = none := by kernel_rfl
@[simp] theorem ty_a_125 : aggT Tryd.prog 125 = some true := by kernel_rfl
@[simp] theorem ty_s_125 : sizeT Tryd.prog 125 = some 6 := by kernel_rfl
@[simp] theorem ty_b_125 : bytesT Tryd.prog 125 = some 80 := by kernel_rfl
@[simp] theorem ty_z_125 : zeroT Tryd.prog 125 = some (.agg [.bool false, .nil, .int .i64 0, .bool false, .nil, .int .i64 0]) := by kernel_rfl
@[simp] theorem ty_f_125_0 : fieldOf Tryd.prog 125 0 = some (0, 3, true) := by kernel_rfl
@[simp] theorem ty_f_125_1 : fieldOf Tryd.prog 125 1 = some (3, 3, true) := by kernel_rfl
@[simp] theorem ty_p_125 : placesB Tryd.prog 125 = some [(0, 3), (3, 3)] := by kernel_rfl
@[simp] theorem ty_k_127 : kindOf Tryd.prog 127 = none := by kernel_rfl
@[simp] theorem ty_a_127 : aggT Tryd.prog 127 = some true := by kernel_rfl
@[simp] theorem ty_s_127 : sizeT Tryd.prog 127 = some 6 := by kernel_rfl
@[simp] theorem ty_b_127 : bytesT Tryd.prog 127 = some 80 := by kernel_rfl
@[simp] theorem ty_z_127 : zeroT Tryd.prog 127 = some (.agg [.bool false, .nil, .int .i64 0, .bool false, .nil, .int .i64 0]) := by kernel_rfl
@[simp] theorem ty_f_127_0 : fieldOf Tryd.prog 127 0 = some (0, 3, true) := by kernel_rfl
@[simp] theorem ty_f_127_1 : fieldOf Tryd.prog 127 1 = some (3, 3, true) := by kernel_rfl
@[simp] theorem ty_p_127 : placesB Tryd.prog 127 = some [(0, 3), (3, 3)] := by kernel_rfl
@[simp] theorem ty_u_149 : Tryd.prog.underlying 149 = some (.int .u64) := by kernel_rfl
@[simp] theorem ty_k_149 : kindOf Tryd.prog 149 = some .u64 := by kernel_rfl
@[simp] theorem ty_a_149 : aggT Tryd.prog 149 = some false := by kernel_rfl
@[simp] theorem ty_s_149 : sizeT Tryd.prog 149 = some 1 := by kernel_rfl
@[simp] theorem ty_b_149 : bytesT Tryd.prog 149 = some 8 := by kernel_rfl
@[simp] theorem ty_z_149 : zeroT Tryd.prog 149 = some (.c (.int .u64 0)) := by kernel_rfl
@[simp] theorem ty_u_155 : Tryd.prog.underlying 155 = some (.int .u32) := by kernel_rfl
@[simp] theorem ty_k_155 : kindOf Tryd.prog 155 = some .u32 := by kernel_rfl
@[simp] theorem ty_a_155 : aggT Tryd.prog 155 = some false := by kernel_rfl
@[simp] theorem ty_s_155 : sizeT Tryd.prog 155 = some 1 := by kernel_rfl
@[simp] theorem ty_b_155 : bytesT Tryd.prog 155 = some 4 := by kernel_rfl
@[simp] theorem ty_z_155 : zeroT Tryd.prog 155 = some (.c (.int .u32 0)) := by kernel_rfl
@[simp] theorem ty_u_157 : Tryd.prog.underlying 157 = some (.int .u64) := by kernel_rfl
@[simp] theorem ty_k_157 : kindOf Tryd.prog 157 = some .u64 := by kernel_rfl
@[simp] theorem ty_a_157 : aggT Tryd.prog 157 = some false := by kernel_rfl
@[simp] theorem ty_s_157 : sizeT Tryd.prog 157 = some 1 := by kernel_rfl
@[simp] theorem ty_b_157 : bytesT Tryd.prog 157 = some 8 := by kernel_rfl
@[simp] theorem ty_z_157 : zeroT Tryd.prog 157 = some (.c (.int .u64 0)) := by kernel_rfl
@[simp] theorem ty_u_162 : Tryd.prog.underlying 162 = some (.array 32 5) := by kernel_rfl
@[simp] theorem ty_k_162 : kindOf Tryd.prog 162 = none := by kernel_rfl
@[simp] theorem ty_a_162 : aggT Tryd.prog 162 = some true := by kernel_rfl
@[simp] theorem ty_s_162 : sizeT Tryd.prog 162 = some 32 := by kernel_rfl
@[simp] theorem ty_b_162 : bytesT Tryd.prog 162 = some 32 := by kernel_rfl
@[simp] theorem ty_z_162 : zeroT Tryd.prog 162 = some (.agg [.int .u8 0, .int .u8 0, .int .u8 0, .int .u8 0, .int .u8 0, .int .u8 0, .int .u8 0, .int .u8 0, .int .u8 0, .int .u8 0, .int .u8 0, .int .u8 0, .int .u8 0, .int .u8 0, .int .u8 0, .int .u8 0, .int .u8 0, .int .u8 0, .int .u8 0, .int .u8 0, .int .u8 0, .int .u8 0, .int .u8 0, .int .u8 0, .int .u8 0, .int .u8 0, .int .u8 0, .int .u8 0, .int .u8 0, .int .u8 0, .int .u8 0, .int .u8 0]) := by kernel_rfl
@[simp] theorem ty_u_163 : Tryd.prog.underlying 163 = some (.array 64 5) := by kernel_rfl
@[simp] theorem ty_k_163 : kindOf Tryd.prog 163 = none := by kernel_rfl
@[simp] theorem ty_a_163 : aggT Tryd.prog 163 = some true := by kernel_rfl
@[simp] theorem ty_s_163 : sizeT Tryd.prog 163 = some 64 := by kernel_rfl
@[simp] theorem ty_b_163 : bytesT Tryd.prog 163 = some 64 := by kernel_rfl
@[simp] theorem ty_z_163 : zeroT Tryd.prog 163 = some (.agg [.int .u8 0, .int .u8 0, .int .u8 0, .int .u8 0, .int .u8 0, .int .u8 0, .int .u8 0, .int .u8 0, .int .u8 0, .int .u8 0, .int .u8 0, .int .u8 0, .int .u8 0, .int .u8 0, .int .u8 0, .int .u8 0, .int .u8 0, .int .u8 0, .int .u8 0, .int .u8 0, .int .u8 0, .int .u8 0, .int .u8 0, .int .u8 0, .int .u8 0, .int .u8 0, .int .u8 0, .int .u8 0, .int .u8 0, .int .u8 0, .int .u8 0, .int .u8 0, .int .u8 0, .int .u8 0, .int .u8 0, .int .u8 0, .int .u8 0, .int .u8 0, .int .u8 0, .int .u8 0, .int .u8 0, .int .u8 0, .int .u8 0, .int .u8 0, .int .u8 0, .int .u8 0, .int .u8 0, .int .u8 0, .int .u8 0, .int .u8 0, .int .u8 0, .int .u8 0, .int .u8 0, .int .u8 0, .int .u8 0, .int .u8 0, .int .u8 0, .int .u8 0, .int .u8 0, .int .u8 0, .int .u8 0, .int .u8 0, .int .u8 0, .int .u8 0]) := by kernel_rfl
def tab3 : List (List Nat) := [[1, 2, 3], [1, 2, 3, 7], [1, 2, 3, 7], [1, 2, 3, 22], [6], [1, 2, 3, 8, 9], [1, 2, 3, 8, 9, 10], [1, 2, 3, 8, 9, 10, 11, 12], [1, 2, 3, 8, 9, 10, 11, 12, 48], [6], [1, 2, 3, 8, 9, 10, 11, 12, 53], [6], [1, 2, 3, 8, 9, 10, 11, 12, 13], [1, 2, 3, 8, 9, 11, 12, 13], [1, 2, 3, 8, 9, 11, 69], [6], [1, 2, 3, 8, 9, 11, 14], [1, 2, 3, 8, 9, 11, 14], [1, 2, 3, 8, 9, 11, 14, 15], [1, 2, 3, 8, 9, 11, 14, 15], [1, 2, 3, 8, 9, 11, 14, 15, 77], [6], [1, 2, 3, 8, 9, 11, 14, 80], [6], [8, 9, 11, 14, 16, 17], [11, 14, 97], [6], [11, 14, 15], [14, 15], [14, 15, 102], [6], [105], [6], [6]]
def tab4 : List (List Nat) := [[0], [0, 3, 4], [0, 3, 4, 5, 6], [0, 3, 4, 5, 29], [2], [0, 3, 4, 5, 7], [0, 3, 4, 5, 7], [0, 3, 4, 5, 7, 8], [0, 3, 4, 5, 7, 8], [0, 3, 4, 5, 7, 8, 37], [2], [0, 3, 4, 5, 7, 40], [2], [3, 4, 5, 7, 9, 10], [5, 7, 54], [2], [5, 7, 8], [7, 8], [7, 8, 59], [2], [62], [2], [2]]
def tab5 : List (List Nat) := [[1], [1, 3], [1, 3], [1, 18], [2], [1, 4, 5], [1, 4, 5, 6], [1, 4, 5, 6, 7, 8], [1, 4, 5, 6, 7, 8, 40], [2], [1, 4, 5, 6, 7, 8, 45], [2], [1, 4, 5, 6, 7, 8, 9], [1, 4, 5, 7, 8, 9], [1, 4, 5, 7, 61], [2], [1, 4, 5, 7, 10], [1, 4, 5, 7, 10], [1, 4, 5, 7, 10, 11], [1, 4, 5, 7, 10, 11], [1, 4, 5, 7, 10, 11, 69], [2], [1, 4, 5, 7, 10, 72], [2], [4, 5, 7, 10, 12, 13], [7, 10, 87], [2], [7, 10, 11], [10, 11], [10, 11, 92], [2], [95], [2], [2]]
def tab6 : List (List Nat) := [[1, 2, 3], [1, 2, 3, 7], [1, 2, 3, 7], [1, 2, 3, 22], [6], [1, 2, 3, 8, 9], [1, 2, 3, 8, 9, 10], [1, 2, 3, 8, 9, 10, 11, 12], [1, 2, 3, 8, 9, 10, 11, 12, 48], [6], [1, 2, 3, 8, 9, 10, 11, 12, 53], [6], [1, 2, 3, 8, 9, 10, 11, 12, 13], [1, 2, 3, 8, 9, 11, 12, 13], [1, 2, 3, 8, 9, 11, 69], [6], [1, 2, 3, 8, 9, 11, 14], [1, 2, 3, 8, 9, 11, 14], [1, 2, 3, 8, 9, 11, 14, 15], [1, 2, 3, 8, 9, 11, 14, 15], [1, 2, 3, 8, 9, 11, 14, 15, 77], [6], [1, 2, 3, 8, 9, 11, 14, 80], [6], [8, 9, 11, 14, 16, 17], [11, 14, 97], [6], [11, 14, 15], [14, 15], [14, 15, 102], [6], [105], [6], [6]]
def tab7 : List (List Nat) := [[2, 3], [2, 3, 5], [2, 3, 5], [2, 3, 5, 21], [4], [2, 3, 5], [2, 3, 26], [4], [2, 3, 6, 7], [2, 3, 6, 7, 8], [2, 3, 6, 7, 8, 9], [2, 3, 6, 7, 8, 9, 10, 11], [2, 3, 6, 7, 8, 9, 10, 11, 53], [4], [2, 3, 6, 7, 8, 9, 10, 11, 58], [4], [2, 3, 6, 7, 8, 9, 10, 11, 63], [4], [2, 3, 6, 7, 8, 9, 10, 11, 12], [2, 3, 6, 7, 9, 10, 11, 12], [2, 3, 6, 7, 10, 11, 12], [2, 3, 6, 7, 10, 82], [4], [2, 3, 6, 7, 10, 13], [2, 3, 6, 7, 10, 13], [2, 3, 6, 7, 10, 13, 14], [2, 3, 6, 7, 10, 13, 14], [2, 3, 6, 7, 10, 13, 14, 90], [4], [2, 3, 6, 7, 10, 13, 93], [4], [6, 7, 10, 13, 15, 16], [10, 13, 110], [4], [10, 13, 14], [13, 14], [13, 14, 115], [4], [118], [4], [4]]
def tab8 : List (List Nat) := [[1], [1, 3], [1, 3], [1, 18], [2], [1, 4, 5], [1, 4, 5, 6], [1, 4, 5, 6, 7, 8], [1, 4, 5, 6, 7, 8, 40], [2], [1, 4, 5, 6, 7, 8, 45], [2], [1, 4, 5, 6, 7, 8, 9], [1, 4, 5, 7, 8, 9], [1, 4, 5, 7, 61], [2], [1, 4, 5, 7, 10], [1, 4, 5, 7, 10], [1, 4, 5, 7, 10, 11], [1, 4, 5, 7, 10, 11], [1, 4, 5, 7, 10, 11, 69], [2], [1, 4, 5, 7, 10, 72], [2], [4, 5, 7, 10, 12, 13], [7, 10, 87], [2], [7, 10, 11], [10, 11], [10, 11, 92], [2], [95], [2], [2]]
def tab9 : List (List Nat) := [[1, 2], [1], [1, 10], [4], [4]]
def tab10 : List (List Nat) := [[1, 2, 3, 6], [1, 2, 3, 6, 30], [6, 7], [6, 7]]
def tab11 : List (List Nat) := [[1, 2], [1, 2, 3], [1, 2, 3], [2, 3], [2]]
def tab12 : List (List Nat) := [[1, 2, 3, 6], [1, 2, 3, 6, 12], [6, 7], [6, 7]]
def tab13 : List (List Nat) := [[2, 3], [2, 3, 10], [4], [15], [4], [4]]
def tab14 : List (List Nat) := [[2, 3], [2, 3, 9], [4], [15], [4], [4]]
def tab15 : List (List Nat) := [[1, 2], [1], [4]]
def tab16 : List (List Nat) := [[1, 2], [1], [4]]
def tab17 : List (List Nat) := [[1, 2], [1], [1, 10], [4], [4]]
def tab18 : List (List Nat) := [[0, 2], [0, 2, 9], [2, 3], [2, 3]]
def tab19 : List (List Nat) := [[0, 2], [0, 2, 6], [2, 3], [2, 3]]
def tab20 : List (List Nat) := [[1, 2], [1], [1, 10], [4], [4]]
def tab21 : List (List Nat) := [[1, 2], [1, 2, 6], [2, 3], [2, 3]]
def tab22 : List (List Nat) := [[1, 2], [1, 2, 7], [2, 3], [1, 2, 4], [2, 3]]
def tab23 : List (List Nat) := [[1, 2, 3, 6], [1, 2, 3, 6, 35], [6, 7], [6, 7]]
def tab24 : List (List Nat) := [[1, 2, 3, 6], [1, 2, 3, 6, 17], [6, 7], [6, 7]]
def tab25 : List (List Nat) := [[1, 2], [1], [1, 10], [4], [4]]
def tab26 : List (List Nat) := [[2, 3, 4], [2, 3, 4, 13], [4, 5], [4, 5]]
def tab27 : List (List Nat) := [[1, 2], [1, 2, 3], [1, 2, 3], [2, 3], [2]]
def tab28 : List (List Nat) := [[2, 3, 4], [2, 3, 4, 13], [4, 5], [4, 5]]
def tab29 : List (List Nat) := [[1, 2], [1, 2, 6], [2, 3], [2, 3]]
def tab30 : List (List Nat) := [[1, 2], [1, 2, 6], [2, 3], [2, 3]]
def tab31 : List (List Nat) := [[2, 3], [2, 3, 9], [4], [15], [4], [4]]
def tab32 : List (List Nat) := [[1, 2], [1], [4]]
def tab33 : List (List Nat) := [[1, 2], [1], [1, 10], [4], [4]]
def tab34 : List (List Nat) := [[0, 1], [0, 1], [0, 1, 11], [4], [0, 1, 5], [0, 1, 5, 15], [0, 1, 5], [0, 1, 5], [0, 1, 5, 25], [4], [4]]
def tab35 : List (List Nat) := [[1], [1, 22], [2], [1, 3], [1, 3, 27], [1, 3], [1, 3, 36], [2], [2]]
def tab36 : List (List Nat) := [[1, 2], [2]]
def tab37 : List (List Nat) := [[0], [0, 3], [0, 3, 4], [0, 3, 4, 11], [0, 3, 4], [0, 3, 4], [2]]
def tab38 : List (List Nat) := [[1, 2, 3], [6]]
def tab39 : List (List Nat) := [[1, 2], [1, 2, 3], [2, 3, 10, 11, 12], [2, 3, 10, 11, 12, 13], [2, 3, 5, 10, 11, 12], [2, 3, 10, 11, 12], [2, 3, 10, 11, 12], [2]]
def tab40 : List (List Nat) := [[1, 2, 3, 6], [6]]
def tab41 : List (List Nat) := [[1, 2], [1, 2], [1, 2, 4, 5], [1, 2, 4, 23], [2, 3], [2, 3]]
def tab42 : List (List Nat) := [[2, 3], [2, 3, 9], [4], [15], [4], [4]]
def tab43 : List (List Nat) := [[0, 1], [0, 1, 10], [4], [0, 1, 5], [0, 1, 5, 14], [0, 1, 5], [0, 1, 5, 26], [4], [4]]
def tab44 : List (List Nat) := [[0, 1], [0, 1, 5], [0, 1, 5, 9], [0, 1, 5], [0, 1, 5], [0, 1, 5], [0, 1, 5], [0, 1, 5], [0, 1, 5], [4]]
def tab45 : List (List Nat) := [[1, 2], [1], [4]]
def tab46 : List (List Nat) := [[1, 2], [1], [1, 10], [4], [4]]
def tab47 : List (List Nat) := [[0, 2], [0, 2, 3], [0, 2, 3, 4], [0, 2, 3, 4, 9], [0, 2, 3, 4], [0, 2, 3, 4], [2]]
def tab48 : List (List Nat) := [[0, 1, 2], [6]]
def tab49 : List (List Nat) := [[0, 2], [2]]
def tab50 : List (List Nat) := [[1, 2], [1, 2, 4, 5], [1, 2, 4, 13], [2, 3], [2, 3]]
def tab51 : List (List Nat) := [[0, 1], [0, 1, 5], [0, 1, 5, 9], [0, 1, 5], [0, 1, 5, 21], [4], [0, 1, 5], [0, 1, 5], [0, 1, 5, 34], [4], [0, 1, 5, 41], [4], [0, 1, 5], [4]]
def tab52 : List (List Nat) := [[1, 2], [1, 2, 3], [1, 2, 3, 4], [1, 2, 3, 4, 12], [1, 2, 3, 4], [1, 2, 3, 4], [2]]
def tab53 : List (List Nat) := [[1, 2], [1, 2, 3], [1, 2, 3, 4], [1, 2, 3, 4, 12], [1, 2, 3, 4], [1, 2, 3, 4, 5], [1, 2, 3, 4, 5, 18], [1, 2, 3, 4, 5], [1, 2, 3, 4, 5], [2]]
def tab54 : List (List Nat) := [[1], [2]]
def tab55 : List (List Nat) := [[0, 1, 4], [0, 1, 4, 5], [0, 1, 4, 5, 10, 11], [0, 1, 4, 5, 10, 11, 12], [0, 1, 4, 5, 6, 10, 11], [0, 1, 4, 5, 6, 10, 11, 14, 15], [0, 1, 4, 5, 6, 10, 11, 14, 15, 16], [0, 1, 4, 5, 6, 7, 10, 11, 14, 15], [0, 1, 4, 5, 6, 10, 11, 14, 15], [0, 1, 4, 5, 6, 10, 11, 14, 15], [0, 1, 4, 5, 10, 11], [4]]
def tab56 : List (List Nat) := [[0, 1, 2, 5], [5]]
def tab57 : List (List Nat) := [[1, 2, 3, 6], [1, 2, 3, 6, 7], [1, 2, 3, 6, 7, 8], [1, 2, 3, 6, 7, 8, 17], [1, 2, 3, 6, 7, 8], [1, 2, 3, 6, 7, 8, 9], [1, 2, 3, 6, 7, 8, 9, 23], [1, 2, 3, 6, 7, 8, 9], [1, 2, 3, 6, 7, 8, 9, 33], [1, 2, 3, 6, 7, 8, 9], [6]]
def tab58 : List (List Nat) := [[1, 2, 3, 6], [1, 2, 3, 6, 7], [1, 2, 3, 6, 7, 15, 16], [1, 2, 3, 6, 7, 15, 16, 17], [1, 2, 3, 6, 7, 8, 15, 16], [1, 2, 3, 6, 7, 8, 15, 16, 20, 21], [1, 2, 3, 6, 7, 8, 15, 16, 20, 21, 22], [1, 2, 3, 6, 7, 8, 9, 15, 16, 20, 21], [1, 2, 3, 6, 7, 8, 9, 15, 16, 20, 21, 31], [1, 2, 3, 6, 7, 8, 15, 16, 20, 21], [1, 2, 3, 6, 7, 8, 15, 16, 20, 21], [1, 2, 3, 6, 7, 15, 16], [6]]
def tab59 : List (List Nat) := [[1, 2], [1], [1, 10], [4], [4]]
def tab60 : List (List Nat) := [[1], [1, 16], [2], [1, 22], [2], [2]]
def tab61 : List (List Nat) := [[1, 2], [1, 2, 6], [2, 3], [2, 3]]
def tab62 : List (List Nat) := [[2, 3, 4], [2, 3, 4, 5], [2, 3, 4, 5, 6], [2, 3, 4, 5, 6, 14], [2, 3, 4, 5, 6], [2, 3, 4, 5, 6], [4]]
def tab63 : List (List Nat) := [[1, 2], [1, 2, 3], [1, 2, 3], [2, 3], [2]]
def tab64 : List (List Nat) := [[1], [1, 12], [2], [2]]
def tab65 : List (List Nat) := [[2, 3, 4], [4]]
def tab66 : List (List Nat) := [[1, 2], [2]]
def tab67 : List (List Nat) := [[1, 2], [1, 2, 8], [2, 3], [1, 2, 4], [1, 2, 4, 5], [1, 2, 4, 5, 17], [1, 2, 4, 5], [1, 2, 4, 5], [2, 3]]
def tab68 : List (List Nat) := [[1, 2], [1, 2, 3], [1, 2, 3, 4], [1, 2, 3, 4, 12], [1, 2, 3, 4], [1, 2, 3, 4], [2]]
def tab69 : List (List Nat) := [[1, 2], [1, 2, 3], [2, 3, 10, 11, 12], [2, 3, 10, 11, 12, 13], [2, 3, 5, 10, 11, 12], [2, 3, 10, 11, 12], [2, 3, 10, 11, 12], [2]]
def tab70 : List (List Nat) := [[1, 2], [1, 2, 4], [2, 4, 13, 14, 15], [2, 4, 13, 14, 15, 16], [2, 4, 6, 13, 14, 15], [2, 4, 7, 8, 13, 14, 15], [2, 4, 7, 13, 14, 15, 25], [2, 3], [2, 4, 13, 14, 15], [2, 4, 13, 14, 15], [2, 3]]
def tab71 : List (List Nat) := [[0, 1], [0, 1, 10], [4], [0, 1, 5], [0, 1, 5, 14], [0, 1, 5], [0, 1, 5, 26], [4], [4]]
def tab72 : List (List Nat) := [[0, 1], [0, 1, 5], [0, 1, 5, 9], [0, 1, 5], [0, 1, 5], [0, 1, 5], [0, 1, 5], [0, 1, 5], [0, 1, 5], [0, 1, 5], [0, 1, 5], [0, 1, 5], [0, 1, 5], [0, 1, 5], [4]]
def tab73 : List (List Nat) := [[0, 1], [0, 1, 5], [0, 1, 5, 9], [0, 1, 5], [0, 1, 5, 22], [4], [0, 1, 5], [0, 1, 5], [0, 1, 5, 36], [4], [0, 1, 5, 44], [4], [0, 1, 5], [0, 1, 5, 57], [4], [0, 1, 5], [0, 1, 5], [0, 1, 5, 71], [4], [0, 1, 5, 79], [4], [0, 1, 5], [4]]
def tab74 : List (List Nat) := [[0, 3, 4], [4]]
def tab75 : List (List Nat) := [[1, 2], [1, 2, 7], [2], [1, 2, 3], [2]]
def tab76 : List (List Nat) := [[0, 1, 4], [0, 1, 4, 6, 7], [0, 1, 4, 6, 14], [4, 5], [4, 5]]
def tab77 : List (List Nat) := [[2, 3], [10], [4], [4]]
def tab78 : List (List Nat) := [[0, 1], [0, 1, 5], [0, 1, 5, 9], [0, 1, 5], [0, 1, 5], [0, 1, 5], [4]]
def tab79 : List (List Nat) := [[1, 2], [1], [4]]
def tab80 : List (List Nat) := [[1, 2], [1], [1, 10], [4], [4]]
def tab81 : List (List Nat) := [[0, 2], [2]]
def tab82 : List (List Nat) := [[1, 2, 4], [1, 2, 4, 10], [4], [1, 2, 4, 5], [4]]
def tab83 : List (List Nat) := [[0, 2], [0, 2, 4], [2], [2]]
def tab84 : List (List Nat) := [[0, 1, 4], [4, 7], [4], [4]]
def tab85 : List (List Nat) := [[0], [0]]
def tab86 : List (List Nat) := [[0], [0, 4], [4, 9, 10, 11], [4, 9, 10, 11, 12], [4, 6, 9, 10, 11], [4, 7, 8, 9, 10, 11], [4, 7, 9, 10, 11, 21], [2, 3], [4, 9, 10, 11], [4, 9, 10, 11], [2, 3]]
def tab87 : List (List Nat) := [[0, 1], [0, 1, 5], [0, 1, 5, 9], [0, 1, 5], [0, 1, 5, 17], [4], [0, 1, 5], [4]]
def tab88 : List (List Nat) := [[0], [2]]
def tab89 : List (List Nat) := [[1, 2], [1], [1, 10], [4], [4]]
def tab90 : List (List Nat) := [[1], [2]]
def tab91 : List (List Nat) := [[1, 2], [1, 2, 14], [4], [4]]
def tab92 : List (List Nat) := [[2, 3, 4], [4]]
def tab93 : List (List Nat) := [[1, 2], [1, 2, 3], [2, 3], [2]]
def tab94 : List (List Nat) := [[1], [2]]
def tab95 : List (List Nat) := [[0, 1], [0, 1, 13], [4], [4]]
def tab96 : List (List Nat) := [[0, 1, 2, 3, 6], [6]]
def tab97 : List (List Nat) := [[2, 3, 4], [2, 3, 4, 5], [4]]
def tab98 : List (List Nat) := [[1], [1, 22], [2], [1, 3], [1, 3, 27], [1, 3], [1, 3, 36], [2], [2]]
def tab99 : List (List Nat) := [[0, 2], [2]]
def tab100 : List (List Nat) := [[1, 2], [1, 2, 4, 5], [2, 4, 5, 6, 7], [2, 4, 6, 25], [2, 3], [2, 3]]
def tab101 : List (List Nat) := [[2, 3], [2, 3, 10], [4], [16], [4], [4]]
def tab102 : List (List Nat) := [[0, 2], [0, 2, 3], [0, 2, 3, 15], [0, 2, 3], [2]]
def tab103 : List (List Nat) := [[0], [5, 6, 7], [5, 6, 7, 8], [3, 4, 5, 6, 7], [3, 4, 5, 6, 7, 13], [2], [5, 6, 7], [2]]
def tab104 : List (List Nat) := [[0, 1], [0, 1, 13], [4], [1, 5], [1, 5, 6], [1, 5, 6, 21, 22, 23], [1, 5, 6, 21, 22, 23, 24], [1, 5, 6, 7, 8, 21, 22, 23], [1, 5, 6, 7, 8, 21, 22, 23, 32], [1, 5, 6, 8, 21, 22, 23], [1, 5, 6, 21, 22, 23], [1, 5, 6, 21, 22, 23], [4]]
def tab105 : List (List Nat) := [[0, 2], [0, 2, 6], [2, 3], [2, 3]]
def tab106 : List (List Nat) := [[0, 1], [0, 1, 10], [4], [0, 1, 5], [0, 1, 5, 14], [0, 1, 5], [0, 1, 5, 25], [4], [4]]
def tab107 : List (List Nat) := [[1], [1, 3], [1, 3, 9], [1, 3], [1, 3, 15], [2], [2]]
def tab108 : List (List Nat) := [[1, 2, 4], [1, 2, 4, 12], [4], [4, 5], [4]]
def tab109 : List (List Nat) := [[2, 3, 4], [2, 3, 4, 5], [2, 3, 4, 5, 6], [2, 3, 4, 5, 6, 7], [2, 3, 4, 5, 6, 7, 24], [2, 3, 4, 5, 6, 7], [2, 3, 4, 5, 7, 8], [2, 3, 4, 5, 7, 8, 32], [2, 3, 4, 5, 7, 8], [2, 3, 4, 5, 7, 8, 44], [2, 3, 4, 5, 7, 8], [2, 3, 4, 5, 7, 8], [2, 3, 4, 5, 6, 7], [4]]
def tab110 : List (List Nat) := [[0, 2], [0, 2, 3], [0, 2, 3, 5], [0, 2, 3], [0, 2, 3], [2]]
def tab111 : List (List Nat) := [[0], [0, 3], [0, 3, 5], [0, 3], [0, 3], [2]]
def tab112 : List (List Nat) := [[0, 3], [4]]
def tab113 : List (List Nat) := [[0, 1], [1], [1, 10], [4], [4]]
def tab114 : List (List Nat) := [[1], [1, 7], [2], [1, 3], [1, 3, 12], [1, 3], [1, 3, 28], [2], [2]]
def tab115 : List (List Nat) := [[2, 3, 4], [4]]
def tab116 : List (List Nat) := [[0], [0, 3], [0, 3, 4], [0, 3, 4, 11], [0, 3, 4], [0, 3, 4], [2]]
def tab117 : List (List Nat) := [[1], [2]]
def tab118 : List (List Nat) := [[0, 1], [0, 1, 5], [1, 5, 17, 18, 19], [1, 5, 17, 18, 19, 20], [1, 5, 6, 7, 17, 18, 19], [1, 5, 6, 7, 8, 17, 18, 19], [1, 5, 6, 7, 8, 17, 18, 19, 24, 25, 26], [1, 5, 6, 7, 8, 17, 18, 19, 24, 25, 26, 27], [1, 5, 6, 7, 8, 9, 10, 17, 18, 19, 24, 25, 26], [1, 5, 6, 7, 8, 9, 17, 18, 19, 24, 25, 26], [1, 5, 6, 7, 8, 17, 18, 19, 24, 25, 26], [1, 5, 6, 7, 8, 17, 18, 19, 24, 25, 26], [1, 5, 6, 7, 8, 17, 18, 19, 24, 25, 26], [1, 5, 17, 18, 19], [1, 5, 17, 18, 19], [4]]
def tab119 : List (List Nat) := [[1], [2]]
def tab120 : List (List Nat) := [[0], [2], [2]]
def tab121 : List (List Nat) := [[0], [0, 14], [0], [2]]
def tab122 : List (List Nat) := [[0], [0, 4], [2], [2]]
def tab123 : List (List Nat) := [[1, 2, 4], [1, 2, 4, 6], [1, 2, 4, 6, 7], [1, 2, 4, 6, 7, 8], [1, 2, 4, 6, 7, 8, 19], [1, 2, 4, 6, 7, 8], [1, 2, 4, 6, 8, 9], [1, 2, 4, 6, 8, 9], [1, 2, 4, 6, 7, 8], [4, 5]]
def tab124 : List (List Nat) := [[0, 1], [4]]
def tab125 : List (List Nat) := [[1, 2], [3]]
def tab126 : List (List Nat) := [[2, 3, 4], [2, 3, 4, 5], [2, 3, 4, 5, 6], [2, 3, 4, 5, 6, 22], [2, 3, 4, 5, 6], [2, 3, 4, 5, 6, 7], [2, 3, 4, 5, 6, 7, 8], [2, 3, 4, 5, 6, 7, 8, 29], [2, 3, 4, 5, 6, 7, 8], [2, 3, 4, 5, 6, 8, 9], [2, 3, 4, 5, 6, 8, 9], [2, 3, 4, 5, 6, 7, 8], [2, 3, 4, 5, 6], [4]]
def tab127 : List (List Nat) := [[0, 3], [4]]
def tab128 : List (List Nat) := [[0], [2]]
def tab129 : List (List Nat) := [[2, 3], [5, 6], [4]]
def tab130 : List (List Nat) := [[0], [0, 4], [2], [2]]
def tab131 : List (List Nat) := [[0], [0, 4], [2], [2]]
def tab132 : List (List Nat) := [[0, 1], [0, 1, 7, 8], [0, 1, 7, 8, 9], [0, 1, 5, 7, 8], [0, 1, 5, 7, 8, 16], [4], [0, 1, 7, 8], [4]]
def tab133 : List (List Nat) := [[0, 1], [4]]
def tab134 : List (List Nat) := [[0, 1], [3]]
def tab135 : List (List Nat) := [[2, 3, 4, 5], [2, 3, 4, 5, 12], [4, 5, 6], [2, 3, 4, 5, 24], [4, 5, 6], [2, 3, 4, 5, 35], [4, 5, 6], [4, 5, 6]]
def tab136 : List (List Nat) := [[2, 3], [2, 3, 9], [11], [4], [4], [2, 3, 13], [4], [4]]
def tab137 : List (List Nat) := [[0, 1], [0, 1, 7, 8], [0, 1, 7, 8, 9], [0, 1, 5, 7, 8], [0, 1, 5, 7, 8, 16], [4], [0, 1, 7, 8], [4]]
def tab138 : List (List Nat) := [[1, 2, 4], [1, 2, 4, 8], [4], [4]]
def tab139 : List (List Nat) := [[2, 3], [2, 3, 12], [19], [4], [4], [2, 3, 5], [2, 3, 5, 25], [2, 3, 5], [2, 3, 5, 38], [4], [2, 3, 5, 49], [4], [4]]
def tabs : Nat → List (List Nat)
  | 3 => tab3
  | 4 => tab4
  | 5 => tab5
  | 6 => tab6
  | 7 => tab7
  | 8 => tab8
  | 9 => tab9
  | 10 => tab10
  | 11 => tab11
  | 12 => tab12
  | 13 => tab13
  | 14 => tab14
  | 15 => tab15
  | 16 => tab16
  | 17 => tab17
  | 18 => tab18
  | 19 => tab19
  | 20 => tab20
  | 21 => tab21
  | 22 => tab22
  | 23 => tab23
  | 24 => tab24
  | 25 => tab25
  | 26 => tab26
  | 27 => tab27
  | 28 => tab28
  | 29 => tab29
  | 30 => tab30
  | 31 => tab31
  | 32 => tab32
  | 33 => tab33
  | 34 => tab34
  | 35 => tab35
  | 36 => tab36
  | 37 => tab37
  | 38 => tab38
  | 39 => tab39
  | 40 => tab40
  | 41 => tab41
  | 42 => tab42
  | 43 => tab43
  | 44 => tab44
  | 45 => tab45
  | 46 => tab46
  | 47 => tab47
  | 48 => tab48
  | 49 => tab49
  | 50 => tab50
  | 51 => tab51
  | 52 => tab52
  | 53 => tab53
  | 54 => tab54
  | 55 => tab55
  | 56 => tab56
  | 57 => tab57
  | 58 => tab58
  | 59 => tab59
  | 60 => tab60
  | 61 => tab61
  | 62 => tab62
  | 63 => tab63
  | 64 => tab64
  | 65 => tab65
  | 66 => tab66
  | 67 => tab67
  | 68 => tab68
  | 69 => tab69
  | 70 => tab70
  | 71 => tab71
  | 72 => tab72
  | 73 => tab73
  | 74 => tab74
  | 75 => tab75
  | 76 => tab76
  | 77 => tab77
  | 78 => tab78
  | 79 => tab79
  | 80 => tab80
  | 81 => tab81
  | 82 => tab82
  | 83 => tab83
  | 84 => tab84
  | 85 => tab85
  | 86 => tab86
  | 87 => tab87
  | 88 => tab88
  | 89 => tab89
  | 90 => tab90
  | 91 => tab91
  | 92 => tab92
  | 93 => tab93
  | 94 => tab94
  | 95 => tab95
  | 96 => tab96
  | 97 => tab97
  | 98 => tab98
  | 99 => tab99
  | 100 => tab100
  | 101 => tab101
  | 102 => tab102
  | 103 => tab103
  | 104 => tab104
  | 105 => tab105
  | 106 => tab106
  | 107 => tab107
  | 108 => tab108
  | 109 => tab109
  | 110 => tab110
  | 111 => tab111
  | 112 => tab112
  | 113 => tab113
  | 114 => tab114
  | 115 => tab115
  | 116 => tab116
  | 117 => tab117
  | 118 => tab118
  | 119 => tab119
  | 120 => tab120
  | 121 => tab121
  | 122 => tab122
  | 123 => tab123
  | 124 => tab124
  | 125 => tab125
  | 126 => tab126
  | 127 => tab127
  | 128 => tab128
  | 129 => tab129
  | 130 => tab130
  | 131 => tab131
  | 132 => tab132
  | 133 => tab133
  | 134 => tab134
  | 135 => tab135
  | 136 => tab136
  | 137 => tab137
  | 138 => tab138
  | 139 => tab139
  | _ => []
def impL : List Nat := [15, 16, 32, 44, 45, 72, 78, 79]
def aliL : List Nat := [121]
def gcL : List Nat := [9, 10, 12, 13, 14, 17, 18, 19, 20, 21, 22, 23, 24, 25, 26, 27, 28, 29, 30, 31, 33, 34, 35, 36, 38, 39, 40, 41, 42, 43, 46, 47, 48, 49, 51, 52, 53, 54, 55, 56, 57, 58, 59, 60, 61, 62, 63, 64, 65, 66, 67, 68, 69, 71, 73, 74, 75, 76, 77, 80, 81, 82, 83, 84, 85, 87, 88, 89, 90, 91, 92, 93, 94, 95, 96, 97, 98, 99, 100, 101, 102, 103, 104, 105, 106, 107, 108, 109, 110, 111, 112, 113, 114, 115, 116, 117, 118, 119, 120, 122, 123, 124, 125, 126, 127, 128, 129, 130, 131, 132, 133, 134, 135, 136, 137, 138, 139]
def ownL : List Nat := [3, 4, 5, 6, 7, 8, 9, 10, 11, 12, 13, 14, 15, 16, 17, 18, 19, 20, 21, 22, 23, 24, 25, 26, 27, 28, 29, 30, 31, 32, 33, 34, 35, 36, 37, 38, 39, 40, 41, 42, 43, 44, 45, 46, 47, 48, 49, 50, 51, 52, 53, 54, 55, 56, 57, 58, 59, 60, 61, 62, 63, 64, 65, 66, 67, 68, 69, 70, 71, 72, 73, 74, 75, 76, 77, 78, 79, 80, 81, 82, 83, 84, 85, 86, 87, 88, 89, 90, 91, 92, 93, 94, 95, 96, 97, 98, 99, 100, 101, 102, 103, 104, 105, 106, 107, 108, 109, 110, 111, 112, 113, 114, 115, 116, 117, 118, 119, 120, 121, 122, 123, 124, 125, 126, 127, 128, 129, 130, 131, 132, 133, 134, 135, 136, 137, 138, 139]
def globT0 : List V := [.int .u8 0, .int .u8 1, .int .u8 28, .int .u8 2, .int .u8 29, .int .u8 14, .int .u8 24, .int .u8 3, .int .u8 30, .int .u8 22, .int .u8 20, .int .u8 15, .int .u8 25, .int .u8 17, .int .u8 4, .int .u8 8, .int .u8 31, .int .u8 27, .int .u8 13, .int .u8 23, .int .u8 21, .int .u8 19, .int .u8 16, .int .u8 7, .int .u8 26, .int .u8 12, .int .u8 18, .int .u8 6, .int .u8 11, .int .u8 5, .int .u8 10, .int .u8 9]
def globT1 : List V := [.int .u8 0, .int .u8 1, .int .u8 56, .int .u8 2, .int .u8 57, .int .u8 49, .int .u8 28, .int .u8 3, .int .u8 61, .int .u8 58, .int .u8 42, .int .u8 50, .int .u8 38, .int .u8 29, .int .u8 17, .int .u8 4, .int .u8 62, .int .u8 47, .int .u8 59, .int .u8 36, .int .u8 45, .int .u8 43, .int .u8 51, .int .u8 22, .int .u8 53, .int .u8 39, .int .u8 33, .int .u8 30, .int .u8 24, .int .u8 18, .int .u8 12, .int .u8 5, .int .u8 63, .int .u8 55, .int .u8 48, .int .u8 27, .int .u8 60, .int .u8 41, .int .u8 37, .int .u8 16, .int .u8 46, .int .u8 35, .int .u8 44, .int .u8 21, .int .u8 52, .int .u8 32, .int .u8 23, .int .u8 11, .int .u8 54, .int .u8 26, .int .u8 40, .int .u8 15, .int .u8 34, .int .u8 20, .int .u8 31, .int .u8 10, .int .u8 25, .int .u8 14, .int .u8 19, .int .u8 9, .int .u8 13, .int .u8 8, .int .u8 7, .int .u8 6]
def cf : Cfg where
  pure := fun f => !impL.contains f
  keep := fun f r => (tabs f).getD r []
  pack := fun f => if f = 122 then .pack [.i64] else if ownL.contains f then .whole else .no
  clone := fun f => match f with
    | 122 => some .i64
    | _ => none
  glob := fun g => match g with
    | 0 => some (.ptr 0 0)
    | 1 => some (.ptr 1 0)
    | _ => none
  rounds := 4294967296
  wary := fun f r => match f with
    | 135 => true
    | _ => false
def nil37 (t : Nat) : Option NK := if t = 2 then some (.s 3) else none
def nil86 (t : Nat) : Option NK := if t = 2 then some (.s 3) else if t = 4 then some (.s 3) else none
def nil104 (t : Nat) : Option NK := if t = 4 then some (.i .i64) else none
def nil109 (t : Nat) : Option NK := if t = 5 then some (.i .i64) else none
def nil110 (t : Nat) : Option NK := if t = 3 then some (.i .i64) else none
def nil111 (t : Nat) : Option NK := if t = 2 then some (.i .i64) else if t = 3 then some (.i .i64) else none
def nil116 (t : Nat) : Option NK := if t = 2 then some (.i .i64) else none
def nil118 (t : Nat) : Option NK := if t = 4 then some (.i .i64) else none
def nil121 (t : Nat) : Option NK := if t = 2 then some (.i .i64) else none
def nil122 (t : Nat) : Option NK := if t = 2 then some (.i .i64) else none
def kn : Kn where
  cf := cf
  out := fun f => match f with
    | 3 => .frz []
    | 4 => .frz []
    | 5 => .frz []
    | 6 => .frz []
    | 7 => .frz []
    | 8 => .frz []
    | 9 => .frz []
    | 10 => .frz [[none, some (.i .i64)]]
    | 11 => .own [[none, some (.s 3)]]
    | 12 => .own [[none, some (.i .i64)]]
    | 13 => .frz []
    | 14 => .frz []
    | 15 => .inl
    | 16 => .inl
    | 17 => .frz []
    | 18 => .frz [[none, some (.s 3)]]
    | 19 => .own [[none, some (.s 3)]]
    | 20 => .frz []
    | 21 => .frz [[none, some (.s 3)]]
    | 22 => .own [[none, some (.s 3)]]
    | 23 => .frz [[none, some (.s 3)]]
    | 24 => .own [[none, some (.s 3)]]
    | 25 => .frz []
    | 26 => .frz [[none, some (.s 3)]]
    | 27 => .own [[none, some (.i .i64)]]
    | 28 => .own [[none, some (.s 3)]]
    | 29 => .frz [[none, some (.s 6)]]
    | 30 => .own [[none, some (.s 6)]]
    | 31 => .frz []
    | 32 => .inl
    | 33 => .frz []
    | 34 => .frz []
    | 35 => .frz []
    | 36 => .frz [[none, some (.i .i64)]]
    | 37 => .own [[some (.s 3)]]
    | 38 => .frz []
    | 39 => .frz [[none, some (.s 3)]]
    | 40 => .frz [[none, some (.i .i64)]]
    | 41 => .own [[none, some (.i .i64)]]
    | 42 => .frz []
    | 43 => .frz []
    | 44 => .inl
    | 45 => .inl
    | 46 => .frz []
    | 47 => .frz [[none, some (.s 3)]]
    | 48 => .frz []
    | 49 => .frz [[none, some (.s 3)]]
    | 50 => .own [[none, some (.s 3)]]
    | 51 => .frz []
    | 52 => .frz [[none, some (.s 3)]]
    | 53 => .frz [[none, some (.s 3)]]
    | 54 => .frz []
    | 55 => .frz [[none, some (.s 3)]]
    | 56 => .frz [[none, some (.i .i64)]]
    | 57 => .frz [[none, some (.s 3)]]
    | 58 => .frz [[none, some (.s 3)]]
    | 59 => .frz []
    | 60 => .frz []
    | 61 => .frz [[none, some (.s 3)]]
    | 62 => .frz [[none, some (.s 3)]]
    | 63 => .own [[none, some (.i .i64)]]
    | 64 => .frz []
    | 65 => .frz [[none, some (.s 3)]]
    | 66 => .frz [[none, some (.i .i64)]]
    | 67 => .frz [[none, some (.s 6)]]
    | 68 => .frz [[none, some (.s 6)]]
    | 69 => .frz [[none, some (.s 6)]]
    | 70 => .own [[none, some (.s 6)]]
    | 71 => .frz []
    | 72 => .inl
    | 73 => .frz []
    | 74 => .frz [[none, some (.i .i64)]]
    | 75 => .frz [[none, some (.i .i64)]]
    | 76 => .own [[none, some (.i .i64)]]
    | 77 => .frz []
    | 78 => .inl
    | 79 => .inl
    | 80 => .frz []
    | 81 => .own [[none, some (.s 3)]]
    | 82 => .frz [[none, some (.i .i64)]]
    | 83 => .frz [[none, some (.i .i64)]]
    | 84 => .frz [[none, some (.i .i64)]]
    | 85 => .frz [[none, some (.i .i64)]]
    | 86 => .own [[some (.s 3)]]
    | 87 => .frz []
    | 88 => .frz []
    | 89 => .frz []
    | 90 => .frz []
    | 91 => .frz []
    | 92 => .frz [[none, some (.i .i64)]]
    | 93 => .own [[some (.i .i64)]]
    | 94 => .frz []
    | 95 => .frz []
    | 96 => .frz [[none, some (.i .i64)]]
    | 97 => .frz [[none, some (.i .i64)]]
    | 98 => .frz []
    | 99 => .own [[none, some (.s 6)]]
    | 100 => .own [[none, some (.i .i64), none, none, some (.i .i64)]]
    | 101 => .frz []
    | 102 => .own [[some (.i .i64)]]
    | 103 => .frz []
    | 104 => .own [[some (.i .i64)]]
    | 105 => .own [[some (.i .i64)]]
    | 106 => .frz []
    | 107 => .frz []
    | 108 => .frz [[some (.i .i64)]]
    | 109 => .frz [[some (.i .i64)]]
    | 110 => .own [[some (.i .i64)]]
    | 111 => .own [[some (.i .i64)]]
    | 112 => .frz []
    | 113 => .frz []
    | 114 => .frz []
    | 115 => .frz [[none, some (.i .i64)]]
    | 116 => .own [[some (.i .i64)]]
    | 117 => .frz []
    | 118 => .own [[some (.i .i64)]]
    | 119 => .frz []
    | 120 => .frz []
    | 121 => .inl
    | 122 => .own [[some (.i .i64)]]
    | 123 => .frz [[some (.i .i64)]]
    | 124 => .frz []
    | 125 => .frz []
    | 126 => .frz [[some (.i .i64)]]
    | 127 => .frz []
    | 128 => .frz []
    | 129 => .frz []
    | 130 => .frz []
    | 131 => .frz []
    | 132 => .frz []
    | 133 => .frz []
    | 134 => .frz []
    | 135 => .frz [[none, some (.i .i64)], [none, some (.i .i64)]]
    | 136 => .frz []
    | 137 => .frz []
    | 138 => .frz [[some (.i .i64)]]
    | 139 => .frz []
    | _ => .inl
  args := fun f => match f with
    | 3 => [[none, some (.s 3)]]
    | 5 => [[none, some (.s 3)]]
    | 6 => [[none, some (.s 3)]]
    | 7 => [[none, some (.s 3)], [none, some (.i .i64)]]
    | 8 => [[none, some (.s 3)]]
    | 9 => [[none, some (.s 3)]]
    | 10 => [[none, some (.s 3)]]
    | 11 => [[none, some (.s 3)]]
    | 12 => [[none, some (.s 3)]]
    | 13 => [[none, some (.i .i64)], [none, some (.i .i64)]]
    | 14 => [[none, some (.s 3)], [none, some (.s 3)]]
    | 17 => [[none, some (.i .i64)]]
    | 20 => [[none, some (.s 3)]]
    | 21 => [[none, some (.s 3)]]
    | 22 => [[none, some (.s 3)]]
    | 23 => [[none, some (.s 3)]]
    | 24 => [[none, some (.s 3)]]
    | 25 => [[none, some (.i .i64)]]
    | 26 => [[none, some (.s 3)], [none, some (.i .i64)]]
    | 27 => [[none, some (.i .i64)]]
    | 28 => [[none, some (.s 3)], [none, some (.i .i64)]]
    | 29 => [[none, some (.s 3)]]
    | 30 => [[none, some (.s 3)]]
    | 31 => [[none, some (.s 6)], [none, some (.s 6)]]
    | 33 => [[none, some (.s 6)]]
    | 34 => [[some (.s 3)]]
    | 35 => [[none, some (.s 3)]]
    | 36 => [[none, some (.i .i64)]]
    | 37 => [[some (.s 3)]]
    | 38 => [[none, some (.s 3)]]
    | 39 => [[none, some (.s 3)]]
    | 40 => [[none, some (.s 3)]]
    | 41 => [[none, some (.i .i64)]]
    | 42 => [[none, some (.i .i64)], [none, some (.i .i64)]]
    | 43 => [[some (.s 3)], [some (.s 3)]]
    | 46 => [[none, some (.i .i64)]]
    | 50 => [[none, some (.s 3)]]
    | 51 => [[some (.s 3)]]
    | 52 => [[none, some (.s 3)]]
    | 53 => [[none, some (.s 3)]]
    | 54 => [[none, some (.s 3)]]
    | 57 => [[none, some (.s 3)]]
    | 58 => [[none, some (.s 3)]]
    | 59 => [[none, some (.i .i64)]]
    | 60 => [[none, some (.i .i64)]]
    | 61 => [[none, some (.s 3)]]
    | 62 => [[none, some (.s 3)], [none, some (.i .i64)]]
    | 63 => [[none, some (.i .i64)]]
    | 64 => [[none, some (.i .i64)]]
    | 65 => [[none, some (.s 3)], [none, some (.i .i64)]]
    | 66 => [[none, some (.i .i64)]]
    | 67 => [[none, some (.s 6)]]
    | 68 => [[none, some (.s 3)]]
    | 69 => [[none, some (.s 3)]]
    | 70 => [[none, some (.s 6)]]
    | 71 => [[some (.s 6)], [some (.s 6)]]
    | 73 => [[some (.s 6)]]
    | 74 => [[], [some (.i .i64)]]
    | 75 => [[none, some (.i .i64)]]
    | 76 => [[], [some (.i .i64)]]
    | 77 => [[some (.i .i64)], [some (.i .i64)]]
    | 80 => [[some (.i .i64)]]
    | 82 => [[none, some (.i .i64)]]
    | 86 => [[some (.s 3)]]
    | 87 => [[some (.i .i64)]]
    | 88 => [[some (.s 3)]]
    | 89 => [[some (.i .i64)]]
    | 90 => [[none, some (.i .i64)]]
    | 91 => [[some (.i .i64)]]
    | 92 => [[none, some (.i .i64)], [none, some (.i .i64)]]
    | 93 => [[some (.i .i64)]]
    | 94 => [[none, some (.i .i64)]]
    | 95 => [[some (.i .i64)]]
    | 97 => [[none, some (.i .i64)], [none, some (.i .i64)]]
    | 98 => [[none, some (.s 6)]]
    | 100 => [[none, some (.i .i64), none, none, some (.i .i64)]]
    | 101 => [[none, some (.i .i64), none, none, some (.i .i64)], [none, some (.i .i64), none, none, some (.i .i64)]]
    | 102 => [[some (.i .i64)]]
    | 103 => [[some (.i .i64)]]
    | 104 => [[some (.i .i64)]]
    | 105 => [[some (.i .i64)]]
    | 106 => [[some (.i .i64)], [some (.i .i64)]]
    | 107 => [[some (.i .i64)]]
    | 108 => [[some (.i .i64)]]
    | 109 => [[some (.i .i64)], [some (.i .i64)]]
    | 112 => [[some (.s 3)]]
    | 113 => [[some (.i .i64)]]
    | 114 => [[some (.i .i64)]]
    | 115 => [[none, some (.i .i64)], [none, some (.i .i64)]]
    | 116 => [[some (.i .i64)]]
    | 117 => [[some (.i .i64)]]
    | 118 => [[some (.i .i64)], [some (.i .i64)]]
    | 119 => [[none, some (.i .i64), none, none, some (.i .i64)]]
    | 121 => [[some (.i .i64)]]
    | 122 => [[some (.i .i64)]]
    | 123 => [[some (.i .i64)]]
    | 124 => [[some (.s 3)]]
    | 125 => [[none, some (.i .i64)]]
    | 126 => [[some (.i .i64)], [some (.i .i64)]]
    | 127 => [[some (.i .i64)]]
    | 129 => [[none, some (.i .i64)], [none, some (.i .i64)]]
    | 132 => [[some (.s 3)]]
    | 133 => [[some (.i .i64)]]
    | 135 => [[none, some (.i .i64)], [none, some (.i .i64)]]
    | 136 => [[none, some (.i .i64)], [none, some (.i .i64)]]
    | 137 => [[some (.i .i64)]]
    | 138 => [[some (.i .i64)]]
    | 139 => [[some (.i .i64)], [some (.i .i64)]]
    | _ => []
  nils := fun f => match f with
    | 37 => nil37
    | 86 => nil86
    | 104 => nil104
    | 109 => nil109
    | 110 => nil110
    | 111 => nil111
    | 116 => nil116
    | 118 => nil118
    | 121 => nil121
    | 122 => nil122
    | _ => fun _ => none
  gc := fun f => gcL.contains f
  ali := fun f => aliL.contains f
  glob := fun g => match g with
    | 0 => some (.fptr globT0)
    | 1 => some (.fptr globT1)
    | _ => none
@[simp] theorem k_cf : kn.cf = cf := rfl
/-! 3: laws.FnExactMatAt -/
@[simp] theorem c_keep3 (r : Nat) : cf.keep 3 r = tab3.getD r [] := rfl
@[simp] theorem c_pure3 : cf.pure 3 = true := rfl
@[simp] theorem c_pack3 : cf.pack 3 = .whole := rfl
@[simp] theorem c_wary3 (r : Nat) : cf.wary 3 r = false := rfl
@[simp] theorem c_clone3 : cf.clone 3 = none := rfl
@[simp] theorem k_out3 : kn.out 3 = .frz [] := rfl
@[simp] theorem k_args3 : kn.args 3 = [[none, some (.s 3)]] := rfl
@[simp] theorem k_nils3 : kn.nils 3 = fun _ => none := rfl
@[simp] theorem k_gc3 : kn.gc 3 = false := rfl
@[simp] theorem k_ali3 : kn.ali 3 = false := rfl
/-! 4: laws.FnExactMatId -/
@[simp] theorem c_keep4 (r : Nat) : cf.keep 4 r = tab4.getD r [] := rfl
@[simp] theorem c_pure4 : cf.pure 4 = true := rfl
@[simp] theorem c_pack4 : cf.pack 4 = .whole := rfl
@[simp] theorem c_wary4 (r : Nat) : cf.wary 4 r = false := rfl
@[simp] theorem c_clone4 : cf.clone 4 = none := rfl
@[simp] theorem k_out4 : kn.out 4 = .frz [] := rfl
@[simp] theorem k_args4 : kn.args 4 = [] := rfl
@[simp] theorem k_nils4 : kn.nils 4 = fun _ => none := rfl
@[simp] theorem k_gc4 : kn.gc 4 = false := rfl
@[simp] theorem k_ali4 : kn.ali 4 = false := rfl
/-! 5: laws.FnExactMatTurn -/
@[simp] theorem c_keep5 (r : Nat) : cf.keep 5 r = tab5.getD r [] := rfl
@[simp] theorem c_pure5 : cf.pure 5 = true := rfl
@[simp] theorem c_pack5 : cf.pack 5 = .whole := rfl
@[simp] theorem c_wary5 (r : Nat) : cf.wary 5 r = false := rfl
@[simp] theorem c_clone5 : cf.clone 5 = none := rfl
@[simp] theorem k_out5 : kn.out 5 = .frz [] := rfl
@[simp] theorem k_args5 : kn.args 5 = [[none, some (.s 3)]] := rfl
@[simp] theorem k_nils5 : kn.nils 5 = fun _ => none := rfl
@[simp] theorem k_gc5 : kn.gc 5 = false := rfl
@[simp] theorem k_ali5 : kn.ali 5 = false := rfl
/-! 6: laws.FnExactMatMinor -/
@[simp] theorem c_keep6 (r : Nat) : cf.keep 6 r = tab6.getD r [] := rfl
@[simp] theorem c_pure6 : cf.pure 6 = true := rfl
@[simp] theorem c_pack6 : cf.pack 6 = .whole := rfl
@[simp] theorem c_wary6 (r : Nat) : cf.wary 6 r = false := rfl
@[simp] theorem c_clone6 : cf.clone 6 = none := rfl
@[simp] theorem k_out6 : kn.out 6 = .frz [] := rfl
@[simp] theorem k_args6 : kn.args 6 = [[none, some (.s 3)]] := rfl
@[simp] theorem k_nils6 : kn.nils 6 = fun _ => none := rfl
@[simp] theorem k_gc6 : kn.gc 6 = false := rfl
@[simp] theorem k_ali6 : kn.ali 6 = false := rfl
/-! 7: laws.FnExactMatScale -/
@[simp] theorem c_keep7 (r : Nat) : cf.keep 7 r = tab7.getD r [] := rfl
@[simp] theorem c_pure7 : cf.pure 7 = true := rfl
@[simp] theorem c_pack7 : cf.pack 7 = .whole := rfl
@[simp] theorem c_wary7 (r : Nat) : cf.wary 7 r = false := rfl
@[simp] theorem c_clone7 : cf.clone 7 = none := rfl
@[simp] theorem k_out7 : kn.out 7 = .frz [] := rfl
@[simp] theorem k_args7 : kn.args 7 = [[none, some (.s 3)], [none, some (.i .i64)]] := rfl
@[simp] theorem k_nils7 : kn.nils 7 = fun _ => none := rfl
@[simp] theorem k_gc7 : kn.gc 7 = false := rfl
@[simp] theorem k_ali7 : kn.ali 7 = false := rfl
/-! 8: laws.FnExactIvMatOf -/
@[simp] theorem c_keep8 (r : Nat) : cf.keep 8 r = tab8.getD r [] := rfl
@[simp] theorem c_pure8 : cf.pure 8 = true := rfl
@[simp] theorem c_pack8 : cf.pack 8 = .whole := rfl
@[simp] theorem c_wary8 (r : Nat) : cf.wary 8 r = false := rfl
@[simp] theorem c_clone8 : cf.clone 8 = none := rfl
@[simp] theorem k_out8 : kn.out 8 = .frz [] := rfl
@[simp] theorem k_args8 : kn.args 8 = [[none, some (.s 3)]] := rfl
@[simp] theorem k_nils8 : kn.nils 8 = fun _ => none := rfl
@[simp] theorem k_gc8 : kn.gc 8 = false := rfl
@[simp] theorem k_ali8 : kn.ali 8 = false := rfl
/-! 9: laws.szMat -/
@[simp] theorem c_keep9 (r : Nat) : cf.keep 9 r = tab9.getD r [] := rfl
@[simp] theorem c_pure9 : cf.pure 9 = true := rfl
@[simp] theorem c_pack9 : cf.pack 9 = .whole := rfl
@[simp] theorem c_wary9 (r : Nat) : cf.wary 9 r = false := rfl
@[simp] theorem c_clone9 : cf.clone 9 = none := rfl
@[simp] theorem k_out9 : kn.out 9 = .frz [] := rfl
@[simp] theorem k_args9 : kn.args 9 = [[none, some (.s 3)]] := rfl
@[simp] theorem k_nils9 : kn.nils 9 = fun _ => none := rfl
@[simp] theorem k_gc9 : kn.gc 9 = true := rfl
@[simp] theorem k_ali9 : kn.ali 9 = false := rfl
/-! 10: spec.MatAt -/
@[simp] theorem c_keep10 (r : Nat) : cf.keep 10 r = tab10.getD r [] := rfl
@[simp] theorem c_pure10 : cf.pure 10 = true := rfl
@[simp] theorem c_pack10 : cf.pack 10 = .whole := rfl
@[simp] theorem c_wary10 (r : Nat) : cf.wary 10 r = false := rfl
@[simp] theorem c_clone10 : cf.clone 10 = none := rfl
@[simp] theorem k_out10 : kn.out 10 = .frz [[none, some (.i .i64)]] := rfl
@[simp] theorem k_args10 : kn.args 10 = [[none, some (.s 3)]] := rfl
@[simp] theorem k_nils10 : kn.nils 10 = fun _ => none := rfl
@[simp] theorem k_gc10 : kn.gc 10 = true := rfl
@[simp] theorem k_ali10 : kn.ali 10 = false := rfl
/-! 11: laws.toMat -/
@[simp] theorem c_keep11 (r : Nat) : cf.keep 11 r = tab11.getD r [] := rfl
@[simp] theorem c_pure11 : cf.pure 11 = true := rfl
@[simp] theorem c_pack11 : cf.pack 11 = .whole := rfl
@[simp] theorem c_wary11 (r : Nat) : cf.wary 11 r = false := rfl
@[simp] theorem c_clone11 : cf.clone 11 = none := rfl
@[simp] theorem k_out11 : kn.out 11 = .own [[none, some (.s 3)]] := rfl
@[simp] theorem k_args11 : kn.args 11 = [[none, some (.s 3)]] := rfl
@[simp] theorem k_nils11 : kn.nils 11 = fun _ => none := rfl
@[simp] theorem k_gc11 : kn.gc 11 = false := rfl
@[simp] theorem k_ali11 : kn.ali 11 = false := rfl
/-! 12: impl.MatAt -/
@[simp] theorem c_keep12 (r : Nat) : cf.keep 12 r = tab12.getD r [] := rfl
@[simp] theorem c_pure12 : cf.pure 12 = true := rfl
@[simp] theorem c_pack12 : cf.pack 12 = .whole := rfl
@[simp] theorem c_wary12 (r : Nat) : cf.wary 12 r = false := rfl
@[simp] theorem c_clone12 : cf.clone 12 = none := rfl
@[simp] theorem k_out12 : kn.out 12 = .own [[none, some (.i .i64)]] := rfl
@[simp] theorem k_args12 : kn.args 12 = [[none, some (.s 3)]] := rfl
@[simp] theorem k_nils12 : kn.nils 12 = fun _ => none := rfl
@[simp] theorem k_gc12 : kn.gc 12 = true := rfl
@[simp] theorem k_ali12 : kn.ali 12 = false := rfl
/-! 13: laws.eqDy -/
@[simp] theorem c_keep13 (r : Nat) : cf.keep 13 r = tab13.getD r [] := rfl
@[simp] theorem c_pure13 : cf.pure 13 = true := rfl
@[simp] theorem c_pack13 : cf.pack 13 = .whole := rfl
@[simp] theorem c_wary13 (r : Nat) : cf.wary 13 r = false := rfl
@[simp] theorem c_clone13 : cf.clone 13 = none := rfl
@[simp] theorem k_out13 : kn.out 13 = .frz [] := rfl
@[simp] theorem k_args13 : kn.args 13 = [[none, some (.i .i64)], [none, some (.i .i64)]] := rfl
@[simp] theorem k_nils13 : kn.nils 13 = fun _ => none := rfl
@[simp] theorem k_gc13 : kn.gc 13 = true := rfl
@[simp] theorem k_ali13 : kn.ali 13 = false := rfl
/-! 14: laws.eqMat -/
@[simp] theorem c_keep14 (r : Nat) : cf.keep 14 r = tab14.getD r [] := rfl
@[simp] theorem c_pure14 : cf.pure 14 = true := rfl
@[simp] theorem c_pack14 : cf.pack 14 = .whole := rfl
@[simp] theorem c_wary14 (r : Nat) : cf.wary 14 r = false := rfl
@[simp] theorem c_clone14 : cf.clone 14 = none := rfl
@[simp] theorem k_out14 : kn.out 14 = .frz [] := rfl
@[simp] theorem k_args14 : kn.args 14 = [[none, some (.s 3)], [none, some (.s 3)]] := rfl
@[simp] theorem k_nils14 : kn.nils 14 = fun _ => none := rfl
@[simp] theorem k_gc14 : kn.gc 14 = true := rfl
@[simp] theorem k_ali14 : kn.ali 14 = false := rfl
/-! 15: laws.markMat -/
@[simp] theorem c_keep15 (r : Nat) : cf.keep 15 r = tab15.getD r [] := rfl
@[simp] theorem c_pure15 : cf.pure 15 = false := rfl
@[simp] theorem c_pack15 : cf.pack 15 = .whole := rfl
@[simp] theorem c_wary15 (r : Nat) : cf.wary 15 r = false := rfl
@[simp] theorem c_clone15 : cf.clone 15 = none := rfl
@[simp] theorem k_out15 : kn.out 15 = .inl := rfl
@[simp] theorem k_args15 : kn.args 15 = [] := rfl
@[simp] theorem k_nils15 : kn.nils 15 = fun _ => none := rfl
@[simp] theorem k_gc15 : kn.gc 15 = false := rfl
@[simp] theorem k_ali15 : kn.ali 15 = false := rfl
/-! 16: laws.markDy -/
@[simp] theorem c_keep16 (r : Nat) : cf.keep 16 r = tab16.getD r [] := rfl
@[simp] theorem c_pure16 : cf.pure 16 = false := rfl
@[simp] theorem c_pack16 : cf.pack 16 = .whole := rfl
@[simp] theorem c_wary16 (r : Nat) : cf.wary 16 r = false := rfl
@[simp] theorem c_clone16 : cf.clone 16 = none := rfl
@[simp] theorem k_out16 : kn.out 16 = .inl := rfl
@[simp] theorem k_args16 : kn.args 16 = [] := rfl
@[simp] theorem k_nils16 : kn.nils 16 = fun _ => none := rfl
@[simp] theorem k_gc16 : kn.gc 16 = false := rfl
@[simp] theorem k_ali16 : kn.ali 16 = false := rfl
/-! 17: laws.heldDy -/
@[simp] theorem c_keep17 (r : Nat) : cf.keep 17 r = tab17.getD r [] := rfl
@[simp] theorem c_pure17 : cf.pure 17 = true := rfl
@[simp] theorem c_pack17 : cf.pack 17 = .whole := rfl
@[simp] theorem c_wary17 (r : Nat) : cf.wary 17 r = false := rfl
@[simp] theorem c_clone17 : cf.clone 17 = none := rfl
@[simp] theorem k_out17 : kn.out 17 = .frz [] := rfl
@[simp] theorem k_args17 : kn.args 17 = [[none, some (.i .i64)]] := rfl
@[simp] theorem k_nils17 : kn.nils 17 = fun _ => none := rfl
@[simp] theorem k_gc17 : kn.gc 17 = true := rfl
@[simp] theorem k_ali17 : kn.ali 17 = false := rfl
/-! 18: spec.MatId -/
@[simp] theorem c_keep18 (r : Nat) : cf.keep 18 r = tab18.getD r [] := rfl
@[simp] theorem c_pure18 : cf.pure 18 = true := rfl
@[simp] theorem c_pack18 : cf.pack 18 = .whole := rfl
@[simp] theorem c_wary18 (r : Nat) : cf.wary 18 r = false := rfl
@[simp] theorem c_clone18 : cf.clone 18 = none := rfl
@[simp] theorem k_out18 : kn.out 18 = .frz [[none, some (.s 3)]] := rfl
@[simp] theorem k_args18 : kn.args 18 = [] := rfl
@[simp] theorem k_nils18 : kn.nils 18 = fun _ => none := rfl
@[simp] theorem k_gc18 : kn.gc 18 = true := rfl
@[simp] theorem k_ali18 : kn.ali 18 = false := rfl
/-! 19: impl.MatId -/
@[simp] theorem c_keep19 (r : Nat) : cf.keep 19 r = tab19.getD r [] := rfl
@[simp] theorem c_pure19 : cf.pure 19 = true := rfl
@[simp] theorem c_pack19 : cf.pack 19 = .whole := rfl
@[simp] theorem c_wary19 (r : Nat) : cf.wary 19 r = false := rfl
@[simp] theorem c_clone19 : cf.clone 19 = none := rfl
@[simp] theorem k_out19 : kn.out 19 = .own [[none, some (.s 3)]] := rfl
@[simp] theorem k_args19 : kn.args 19 = [] := rfl
@[simp] theorem k_nils19 : kn.nils 19 = fun _ => none := rfl
@[simp] theorem k_gc19 : kn.gc 19 = true := rfl
@[simp] theorem k_ali19 : kn.ali 19 = false := rfl
/-! 20: laws.heldMat -/
@[simp] theorem c_keep20 (r : Nat) : cf.keep 20 r = tab20.getD r [] := rfl
@[simp] theorem c_pure20 : cf.pure 20 = true := rfl
@[simp] theorem c_pack20 : cf.pack 20 = .whole := rfl
@[simp] theorem c_wary20 (r : Nat) : cf.wary 20 r = false := rfl
@[simp] theorem c_clone20 : cf.clone 20 = none := rfl
@[simp] theorem k_out20 : kn.out 20 = .frz [] := rfl
@[simp] theorem k_args20 : kn.args 20 = [[none, some (.s 3)]] := rfl
@[simp] theorem k_nils20 : kn.nils 20 = fun _ => none := rfl
@[simp] theorem k_gc20 : kn.gc 20 = true := rfl
@[simp] theorem k_ali20 : kn.ali 20 = false := rfl
/-! 21: spec.MatTurn -/
@[simp] theorem c_keep21 (r : Nat) : cf.keep 21 r = tab21.getD r [] := rfl
@[simp] theorem c_pure21 : cf.pure 21 = true := rfl
@[simp] theorem c_pack21 : cf.pack 21 = .whole := rfl
@[simp] theorem c_wary21 (r : Nat) : cf.wary 21 r = false := rfl
@[simp] theorem c_clone21 : cf.clone 21 = none := rfl
@[simp] theorem k_out21 : kn.out 21 = .frz [[none, some (.s 3)]] := rfl
@[simp] theorem k_args21 : kn.args 21 = [[none, some (.s 3)]] := rfl
@[simp] theorem k_nils21 : kn.nils 21 = fun _ => none := rfl
@[simp] theorem k_gc21 : kn.gc 21 = true := rfl
@[simp] theorem k_ali21 : kn.ali 21 = false := rfl
/-! 22: impl.MatTurn -/
@[simp] theorem c_keep22 (r : Nat) : cf.keep 22 r = tab22.getD r [] := rfl
@[simp] theorem c_pure22 : cf.pure 22 = true := rfl
@[simp] theorem c_pack22 : cf.pack 22 = .whole := rfl
@[simp] theorem c_wary22 (r : Nat) : cf.wary 22 r = false := rfl
@[simp] theorem c_clone22 : cf.clone 22 = none := rfl
@[simp] theorem k_out22 : kn.out 22 = .own [[none, some (.s 3)]] := rfl
@[simp] theorem k_args22 : kn.args 22 = [[none, some (.s 3)]] := rfl
@[simp] theorem k_nils22 : kn.nils 22 = fun _ => none := rfl
@[simp] theorem k_gc22 : kn.gc 22 = true := rfl
@[simp] theorem k_ali22 : kn.ali 22 = false := rfl
/-! 23: spec.MatMinor -/
@[simp] theorem c_keep23 (r : Nat) : cf.keep 23 r = tab23.getD r [] := rfl
@[simp] theorem c_pure23 : cf.pure 23 = true := rfl
@[simp] theorem c_pack23 : cf.pack 23 = .whole := rfl
@[simp] theorem c_wary23 (r : Nat) : cf.wary 23 r = false := rfl
@[simp] theorem c_clone23 : cf.clone 23 = none := rfl
@[simp] theorem k_out23 : kn.out 23 = .frz [[none, some (.s 3)]] := rfl
@[simp] theorem k_args23 : kn.args 23 = [[none, some (.s 3)]] := rfl
@[simp] theorem k_nils23 : kn.nils 23 = fun _ => none := rfl
@[simp] theorem k_gc23 : kn.gc 23 = true := rfl
@[simp] theorem k_ali23 : kn.ali 23 = false := rfl
/-! 24: impl.MatMinor -/
@[simp] theorem c_keep24 (r : Nat) : cf.keep 24 r = tab24.getD r [] := rfl
@[simp] theorem c_pure24 : cf.pure 24 = true := rfl
@[simp] theorem c_pack24 : cf.pack 24 = .whole := rfl
@[simp] theorem c_wary24 (r : Nat) : cf.wary 24 r = false := rfl
@[simp] theorem c_clone24 : cf.clone 24 = none := rfl
@[simp] theorem k_out24 : kn.out 24 = .own [[none, some (.s 3)]] := rfl
@[simp] theorem k_args24 : kn.args 24 = [[none, some (.s 3)]] := rfl
@[simp] theorem k_nils24 : kn.nils 24 = fun _ => none := rfl
@[simp] theorem k_gc24 : kn.gc 24 = true := rfl
@[simp] theorem k_ali24 : kn.ali 24 = false := rfl
/-! 25: laws.szDy -/
@[simp] theorem c_keep25 (r : Nat) : cf.keep 25 r = tab25.getD r [] := rfl
@[simp] theorem c_pure25 : cf.pure 25 = true := rfl
@[simp] theorem c_pack25 : cf.pack 25 = .whole := rfl
@[simp] theorem c_wary25 (r : Nat) : cf.wary 25 r = false := rfl
@[simp] theorem c_clone25 : cf.clone 25 = none := rfl
@[simp] theorem k_out25 : kn.out 25 = .frz [] := rfl
@[simp] theorem k_args25 : kn.args 25 = [[none, some (.i .i64)]] := rfl
@[simp] theorem k_nils25 : kn.nils 25 = fun _ => none := rfl
@[simp] theorem k_gc25 : kn.gc 25 = true := rfl
@[simp] theorem k_ali25 : kn.ali 25 = false := rfl
/-! 26: spec.MatScale -/
@[simp] theorem c_keep26 (r : Nat) : cf.keep 26 r = tab26.getD r [] := rfl
@[simp] theorem c_pure26 : cf.pure 26 = true := rfl
@[simp] theorem c_pack26 : cf.pack 26 = .whole := rfl
@[simp] theorem c_wary26 (r : Nat) : cf.wary 26 r = false := rfl
@[simp] theorem c_clone26 : cf.clone 26 = none := rfl
@[simp] theorem k_out26 : kn.out 26 = .frz [[none, some (.s 3)]] := rfl
@[simp] theorem k_args26 : kn.args 26 = [[none, some (.s 3)], [none, some (.i .i64)]] := rfl
@[simp] theorem k_nils26 : kn.nils 26 = fun _ => none := rfl
@[simp] theorem k_gc26 : kn.gc 26 = true := rfl
@[simp] theorem k_ali26 : kn.ali 26 = false := rfl
/-! 27: laws.toDy -/
@[simp] theorem c_keep27 (r : Nat) : cf.keep 27 r = tab27.getD r [] := rfl
@[simp] theorem c_pure27 : cf.pure 27 = true := rfl
@[simp] theorem c_pack27 : cf.pack 27 = .whole := rfl
@[simp] theorem c_wary27 (r : Nat) : cf.wary 27 r = false := rfl
@[simp] theorem c_clone27 : cf.clone 27 = none := rfl
@[simp] theorem k_out27 : kn.out 27 = .own [[none, some (.i .i64)]] := rfl
@[simp] theorem k_args27 : kn.args 27 = [[none, some (.i .i64)]] := rfl
@[simp] theorem k_nils27 : kn.nils 27 = fun _ => none := rfl
@[simp] theorem k_gc27 : kn.gc 27 = true := rfl
@[simp] theorem k_ali27 : kn.ali 27 = false := rfl
/-! 28: impl.MatScale -/
@[simp] theorem c_keep28 (r : Nat) : cf.keep 28 r = tab28.getD r [] := rfl
@[simp] theorem c_pure28 : cf.pure 28 = true := rfl
@[simp] theorem c_pack28 : cf.pack 28 = .whole := rfl
@[simp] theorem c_wary28 (r : Nat) : cf.wary 28 r = false := rfl
@[simp] theorem c_clone28 : cf.clone 28 = none := rfl
@[simp] theorem k_out28 : kn.out 28 = .own [[none, some (.s 3)]] := rfl
@[simp] theorem k_args28 : kn.args 28 = [[none, some (.s 3)], [none, some (.i .i64)]] := rfl
@[simp] theorem k_nils28 : kn.nils 28 = fun _ => none := rfl
@[simp] theorem k_gc28 : kn.gc 28 = true := rfl
@[simp] theorem k_ali28 : kn.ali 28 = false := rfl
/-! 29: spec.IvMatOf -/
@[simp] theorem c_keep29 (r : Nat) : cf.keep 29 r = tab29.getD r [] := rfl
@[simp] theorem c_pure29 : cf.pure 29 = true := rfl
@[simp] theorem c_pack29 : cf.pack 29 = .whole := rfl
@[simp] theorem c_wary29 (r : Nat) : cf.wary 29 r = false := rfl
@[simp] theorem c_clone29 : cf.clone 29 = none := rfl
@[simp] theorem k_out29 : kn.out 29 = .frz [[none, some (.s 6)]] := rfl
@[simp] theorem k_args29 : kn.args 29 = [[none, some (.s 3)]] := rfl
@[simp] theorem k_nils29 : kn.nils 29 = fun _ => none := rfl
@[simp] theorem k_gc29 : kn.gc 29 = true := rfl
@[simp] theorem k_ali29 : kn.ali 29 = false := rfl
/-! 30: impl.IvMatOf -/
@[simp] theorem c_keep30 (r : Nat) : cf.keep 30 r = tab30.getD r [] := rfl
@[simp] theorem c_pure30 : cf.pure 30 = true := rfl
@[simp] theorem c_pack30 : cf.pack 30 = .whole := rfl
@[simp] theorem c_wary30 (r : Nat) : cf.wary 30 r = false := rfl
@[simp] theorem c_clone30 : cf.clone 30 = none := rfl
@[simp] theorem k_out30 : kn.out 30 = .own [[none, some (.s 6)]] := rfl
@[simp] theorem k_args30 : kn.args 30 = [[none, some (.s 3)]] := rfl
@[simp] theorem k_nils30 : kn.nils 30 = fun _ => none := rfl
@[simp] theorem k_gc30 : kn.gc 30 = true := rfl
@[simp] theorem k_ali30 : kn.ali 30 = false := rfl
/-! 31: laws.eqIvMat -/
@[simp] theorem c_keep31 (r : Nat) : cf.keep 31 r = tab31.getD r [] := rfl
@[simp] theorem c_pure31 : cf.pure 31 = true := rfl
@[simp] theorem c_pack31 : cf.pack 31 = .whole := rfl
@[simp] theorem c_wary31 (r : Nat) : cf.wary 31 r = false := rfl
@[simp] theorem c_clone31 : cf.clone 31 = none := rfl
@[simp] theorem k_out31 : kn.out 31 = .frz [] := rfl
@[simp] theorem k_args31 : kn.args 31 = [[none, some (.s 6)], [none, some (.s 6)]] := rfl
@[simp] theorem k_nils31 : kn.nils 31 = fun _ => none := rfl
@[simp] theorem k_gc31 : kn.gc 31 = true := rfl
@[simp] theorem k_ali31 : kn.ali 31 = false := rfl
/-! 32: laws.markIvMat -/
@[simp] theorem c_keep32 (r : Nat) : cf.keep 32 r = tab32.getD r [] := rfl
@[simp] theorem c_pure32 : cf.pure 32 = false := rfl
@[simp] theorem c_pack32 : cf.pack 32 = .whole := rfl
@[simp] theorem c_wary32 (r : Nat) : cf.wary 32 r = false := rfl
@[simp] theorem c_clone32 : cf.clone 32 = none := rfl
@[simp] theorem k_out32 : kn.out 32 = .inl := rfl
@[simp] theorem k_args32 : kn.args 32 = [] := rfl
@[simp] theorem k_nils32 : kn.nils 32 = fun _ => none := rfl
@[simp] theorem k_gc32 : kn.gc 32 = false := rfl
@[simp] theorem k_ali32 : kn.ali 32 = false := rfl
/-! 33: laws.heldIvMat -/
@[simp] theorem c_keep33 (r : Nat) : cf.keep 33 r = tab33.getD r [] := rfl
@[simp] theorem c_pure33 : cf.pure 33 = true := rfl
@[simp] theorem c_pack33 : cf.pack 33 = .whole := rfl
@[simp] theorem c_wary33 (r : Nat) : cf.wary 33 r = false := rfl
@[simp] theorem c_clone33 : cf.clone 33 = none := rfl
@[simp] theorem k_out33 : kn.out 33 = .frz [] := rfl
@[simp] theorem k_args33 : kn.args 33 = [[none, some (.s 6)]] := rfl
@[simp] theorem k_nils33 : kn.nils 33 = fun _ => none := rfl
@[simp] theorem k_gc33 : kn.gc 33 = true := rfl
@[simp] theorem k_ali33 : kn.ali 33 = false := rfl
/-! 34: laws.szDyS -/
@[simp] theorem c_keep34 (r : Nat) : cf.keep 34 r = tab34.getD r [] := rfl
@[simp] theorem c_pure34 : cf.pure 34 = true := rfl
@[simp] theorem c_pack34 : cf.pack 34 = .whole := rfl
@[simp] theorem c_wary34 (r : Nat) : cf.wary 34 r = false := rfl
@[simp] theorem c_clone34 : cf.clone 34 = none := rfl
@[simp] theorem k_out34 : kn.out 34 = .frz [] := rfl
@[simp] theorem k_args34 : kn.args 34 = [[some (.s 3)]] := rfl
@[simp] theorem k_nils34 : kn.nils 34 = fun _ => none := rfl
@[simp] theorem k_gc34 : kn.gc 34 = true := rfl
@[simp] theorem k_ali34 : kn.ali 34 = false := rfl
/-! 35: spec.MatOk -/
@[simp] theorem c_keep35 (r : Nat) : cf.keep 35 r = tab35.getD r [] := rfl
@[simp] theorem c_pure35 : cf.pure 35 = true := rfl
@[simp] theorem c_pack35 : cf.pack 35 = .whole := rfl
@[simp] theorem c_wary35 (r : Nat) : cf.wary 35 r = false := rfl
@[simp] theorem c_clone35 : cf.clone 35 = none := rfl
@[simp] theorem k_out35 : kn.out 35 = .frz [] := rfl
@[simp] theorem k_args35 : kn.args 35 = [[none, some (.s 3)]] := rfl
@[simp] theorem k_nils35 : kn.nils 35 = fun _ => none := rfl
@[simp] theorem k_gc35 : kn.gc 35 = true := rfl
@[simp] theorem k_ali35 : kn.ali 35 = false := rfl
/-! 36: spec.l7own -/
@[simp] theorem c_keep36 (r : Nat) : cf.keep 36 r = tab36.getD r [] := rfl
@[simp] theorem c_pure36 : cf.pure 36 = true := rfl
@[simp] theorem c_pack36 : cf.pack 36 = .whole := rfl
@[simp] theorem c_wary36 (r : Nat) : cf.wary 36 r = false := rfl
@[simp] theorem c_clone36 : cf.clone 36 = none := rfl
@[simp] theorem k_out36 : kn.out 36 = .frz [[none, some (.i .i64)]] := rfl
@[simp] theorem k_args36 : kn.args 36 = [[none, some (.i .i64)]] := rfl
@[simp] theorem k_nils36 : kn.nils 36 = fun _ => none := rfl
@[simp] theorem k_gc36 : kn.gc 36 = true := rfl
@[simp] theorem k_ali36 : kn.ali 36 = false := rfl
/-! 37: laws.toDyS -/
@[simp] theorem c_keep37 (r : Nat) : cf.keep 37 r = tab37.getD r [] := rfl
@[simp] theorem c_pure37 : cf.pure 37 = true := rfl
@[simp] theorem c_pack37 : cf.pack 37 = .whole := rfl
@[simp] theorem c_wary37 (r : Nat) : cf.wary 37 r = false := rfl
@[simp] theorem c_clone37 : cf.clone 37 = none := rfl
@[simp] theorem k_out37 : kn.out 37 = .own [[some (.s 3)]] := rfl
@[simp] theorem k_args37 : kn.args 37 = [[some (.s 3)]] := rfl
@[simp] theorem k_nils37 : kn.nils 37 = nil37 := rfl
@[simp] theorem k_gc37 : kn.gc 37 = false := rfl
@[simp] theorem k_ali37 : kn.ali 37 = false := rfl
/-! 38: (impl.Mat).isPlace -/
@[simp] theorem c_keep38 (r : Nat) : cf.keep 38 r = tab38.getD r [] := rfl
@[simp] theorem c_pure38 : cf.pure 38 = true := rfl
@[simp] theorem c_pack38 : cf.pack 38 = .whole := rfl
@[simp] theorem c_wary38 (r : Nat) : cf.wary 38 r = false := rfl
@[simp] theorem c_clone38 : cf.clone 38 = none := rfl
@[simp] theorem k_out38 : kn.out 38 = .frz [] := rfl
@[simp] theorem k_args38 : kn.args 38 = [[none, some (.s 3)]] := rfl
@[simp] theorem k_nils38 : kn.nils 38 = fun _ => none := rfl
@[simp] theorem k_gc38 : kn.gc 38 = true := rfl
@[simp] theorem k_ali38 : kn.ali 38 = false := rfl
/-! 39: (impl.Mat).grid -/
@[simp] theorem c_keep39 (r : Nat) : cf.keep 39 r = tab39.getD r [] := rfl
@[simp] theorem c_pure39 : cf.pure 39 = true := rfl
@[simp] theorem c_pack39 : cf.pack 39 = .whole := rfl
@[simp] theorem c_wary39 (r : Nat) : cf.wary 39 r = false := rfl
@[simp] theorem c_clone39 : cf.clone 39 = none := rfl
@[simp] theorem k_out39 : kn.out 39 = .frz [[none, some (.s 3)]] := rfl
@[simp] theorem k_args39 : kn.args 39 = [[none, some (.s 3)]] := rfl
@[simp] theorem k_nils39 : kn.nils 39 = fun _ => none := rfl
@[simp] theorem k_gc39 : kn.gc 39 = true := rfl
@[simp] theorem k_ali39 : kn.ali 39 = false := rfl
/-! 40: (impl.grid).at -/
@[simp] theorem c_keep40 (r : Nat) : cf.keep 40 r = tab40.getD r [] := rfl
@[simp] theorem c_pure40 : cf.pure 40 = true := rfl
@[simp] theorem c_pack40 : cf.pack 40 = .whole := rfl
@[simp] theorem c_wary40 (r : Nat) : cf.wary 40 r = false := rfl
@[simp] theorem c_clone40 : cf.clone 40 = none := rfl
@[simp] theorem k_out40 : kn.out 40 = .frz [[none, some (.i .i64)]] := rfl
@[simp] theorem k_args40 : kn.args 40 = [[none, some (.s 3)]] := rfl
@[simp] theorem k_nils40 : kn.nils 40 = fun _ => none := rfl
@[simp] theorem k_gc40 : kn.gc 40 = true := rfl
@[simp] theorem k_ali40 : kn.ali 40 = false := rfl
/-! 41: (impl.exact).dy -/
@[simp] theorem c_keep41 (r : Nat) : cf.keep 41 r = tab41.getD r [] := rfl
@[simp] theorem c_pure41 : cf.pure 41 = true := rfl
@[simp] theorem c_pack41 : cf.pack 41 = .whole := rfl
@[simp] theorem c_wary41 (r : Nat) : cf.wary 41 r = false := rfl
@[simp] theorem c_clone41 : cf.clone 41 = none := rfl
@[simp] theorem k_out41 : kn.out 41 = .own [[none, some (.i .i64)]] := rfl
@[simp] theorem k_args41 : kn.args 41 = [[none, some (.i .i64)]] := rfl
@[simp] theorem k_nils41 : kn.nils 41 = fun _ => none := rfl
@[simp] theorem k_gc41 : kn.gc 41 = true := rfl
@[simp] theorem k_ali41 : kn.ali 41 = false := rfl
/-! 42: laws.eqWhole -/
@[simp] theorem c_keep42 (r : Nat) : cf.keep 42 r = tab42.getD r [] := rfl
@[simp] theorem c_pure42 : cf.pure 42 = true := rfl
@[simp] theorem c_pack42 : cf.pack 42 = .whole := rfl
@[simp] theorem c_wary42 (r : Nat) : cf.wary 42 r = false := rfl
@[simp] theorem c_clone42 : cf.clone 42 = none := rfl
@[simp] theorem k_out42 : kn.out 42 = .frz [] := rfl
@[simp] theorem k_args42 : kn.args 42 = [[none, some (.i .i64)], [none, some (.i .i64)]] := rfl
@[simp] theorem k_nils42 : kn.nils 42 = fun _ => none := rfl
@[simp] theorem k_gc42 : kn.gc 42 = true := rfl
@[simp] theorem k_ali42 : kn.ali 42 = false := rfl
/-! 43: laws.eqDyS -/
@[simp] theorem c_keep43 (r : Nat) : cf.keep 43 r = tab43.getD r [] := rfl
@[simp] theorem c_pure43 : cf.pure 43 = true := rfl
@[simp] theorem c_pack43 : cf.pack 43 = .whole := rfl
@[simp] theorem c_wary43 (r : Nat) : cf.wary 43 r = false := rfl
@[simp] theorem c_clone43 : cf.clone 43 = none := rfl
@[simp] theorem k_out43 : kn.out 43 = .frz [] := rfl
@[simp] theorem k_args43 : kn.args 43 = [[some (.s 3)], [some (.s 3)]] := rfl
@[simp] theorem k_nils43 : kn.nils 43 = fun _ => none := rfl
@[simp] theorem k_gc43 : kn.gc 43 = true := rfl
@[simp] theorem k_ali43 : kn.ali 43 = false := rfl
/-! 44: laws.markDyS -/
@[simp] theorem c_keep44 (r : Nat) : cf.keep 44 r = tab44.getD r [] := rfl
@[simp] theorem c_pure44 : cf.pure 44 = false := rfl
@[simp] theorem c_pack44 : cf.pack 44 = .whole := rfl
@[simp] theorem c_wary44 (r : Nat) : cf.wary 44 r = false := rfl
@[simp] theorem c_clone44 : cf.clone 44 = none := rfl
@[simp] theorem k_out44 : kn.out 44 = .inl := rfl
@[simp] theorem k_args44 : kn.args 44 = [] := rfl
@[simp] theorem k_nils44 : kn.nils 44 = fun _ => none := rfl
@[simp] theorem k_gc44 : kn.gc 44 = false := rfl
@[simp] theorem k_ali44 : kn.ali 44 = false := rfl
/-! 45: laws.markWhole -/
@[simp] theorem c_keep45 (r : Nat) : cf.keep 45 r = tab45.getD r [] := rfl
@[simp] theorem c_pure45 : cf.pure 45 = false := rfl
@[simp] theorem c_pack45 : cf.pack 45 = .whole := rfl
@[simp] theorem c_wary45 (r : Nat) : cf.wary 45 r = false := rfl
@[simp] theorem c_clone45 : cf.clone 45 = none := rfl
@[simp] theorem k_out45 : kn.out 45 = .inl := rfl
@[simp] theorem k_args45 : kn.args 45 = [] := rfl
@[simp] theorem k_nils45 : kn.nils 45 = fun _ => none := rfl
@[simp] theorem k_gc45 : kn.gc 45 = false := rfl
@[simp] theorem k_ali45 : kn.ali 45 = false := rfl
/-! 46: laws.heldWhole -/
@[simp] theorem c_keep46 (r : Nat) : cf.keep 46 r = tab46.getD r [] := rfl
@[simp] theorem c_pure46 : cf.pure 46 = true := rfl
@[simp] theorem c_pack46 : cf.pack 46 = .whole := rfl
@[simp] theorem c_wary46 (r : Nat) : cf.wary 46 r = false := rfl
@[simp] theorem c_clone46 : cf.clone 46 = none := rfl
@[simp] theorem k_out46 : kn.out 46 = .frz [] := rfl
@[simp] theorem k_args46 : kn.args 46 = [[none, some (.i .i64)]] := rfl
@[simp] theorem k_nils46 : kn.nils 46 = fun _ => none := rfl
@[simp] theorem k_gc46 : kn.gc 46 = true := rfl
@[simp] theorem k_ali46 : kn.ali 46 = false := rfl
/-! 47: spec.l8id -/
@[simp] theorem c_keep47 (r : Nat) : cf.keep 47 r = tab47.getD r [] := rfl
@[simp] theorem c_pure47 : cf.pure 47 = true := rfl
@[simp] theorem c_pack47 : cf.pack 47 = .whole := rfl
@[simp] theorem c_wary47 (r : Nat) : cf.wary 47 r = false := rfl
@[simp] theorem c_clone47 : cf.clone 47 = none := rfl
@[simp] theorem k_out47 : kn.out 47 = .frz [[none, some (.s 3)]] := rfl
@[simp] theorem k_args47 : kn.args 47 = [] := rfl
@[simp] theorem k_nils47 : kn.nils 47 = fun _ => none := rfl
@[simp] theorem k_gc47 : kn.gc 47 = true := rfl
@[simp] theorem k_ali47 : kn.ali 47 = false := rfl
/-! 48: impl.within -/
@[simp] theorem c_keep48 (r : Nat) : cf.keep 48 r = tab48.getD r [] := rfl
@[simp] theorem c_pure48 : cf.pure 48 = true := rfl
@[simp] theorem c_pack48 : cf.pack 48 = .whole := rfl
@[simp] theorem c_wary48 (r : Nat) : cf.wary 48 r = false := rfl
@[simp] theorem c_clone48 : cf.clone 48 = none := rfl
@[simp] theorem k_out48 : kn.out 48 = .frz [] := rfl
@[simp] theorem k_args48 : kn.args 48 = [] := rfl
@[simp] theorem k_nils48 : kn.nils 48 = fun _ => none := rfl
@[simp] theorem k_gc48 : kn.gc 48 = true := rfl
@[simp] theorem k_ali48 : kn.ali 48 = false := rfl
/-! 49: impl.identity -/
@[simp] theorem c_keep49 (r : Nat) : cf.keep 49 r = tab49.getD r [] := rfl
@[simp] theorem c_pure49 : cf.pure 49 = true := rfl
@[simp] theorem c_pack49 : cf.pack 49 = .whole := rfl
@[simp] theorem c_wary49 (r : Nat) : cf.wary 49 r = false := rfl
@[simp] theorem c_clone49 : cf.clone 49 = none := rfl
@[simp] theorem k_out49 : kn.out 49 = .frz [[none, some (.s 3)]] := rfl
@[simp] theorem k_args49 : kn.args 49 = [] := rfl
@[simp] theorem k_nils49 : kn.nils 49 = fun _ => none := rfl
@[simp] theorem k_gc49 : kn.gc 49 = true := rfl
@[simp] theorem k_ali49 : kn.ali 49 = false := rfl
/-! 50: (impl.grid).mat -/
@[simp] theorem c_keep50 (r : Nat) : cf.keep 50 r = tab50.getD r [] := rfl
@[simp] theorem c_pure50 : cf.pure 50 = true := rfl
@[simp] theorem c_pack50 : cf.pack 50 = .whole := rfl
@[simp] theorem c_wary50 (r : Nat) : cf.wary 50 r = false := rfl
@[simp] theorem c_clone50 : cf.clone 50 = none := rfl
@[simp] theorem k_out50 : kn.out 50 = .own [[none, some (.s 3)]] := rfl
@[simp] theorem k_args50 : kn.args 50 = [[none, some (.s 3)]] := rfl
@[simp] theorem k_nils50 : kn.nils 50 = fun _ => none := rfl
@[simp] theorem k_gc50 : kn.gc 50 = false := rfl
@[simp] theorem k_ali50 : kn.ali 50 = false := rfl
/-! 51: laws.heldDyS -/
@[simp] theorem c_keep51 (r : Nat) : cf.keep 51 r = tab51.getD r [] := rfl
@[simp] theorem c_pure51 : cf.pure 51 = true := rfl
@[simp] theorem c_pack51 : cf.pack 51 = .whole := rfl
@[simp] theorem c_wary51 (r : Nat) : cf.wary 51 r = false := rfl
@[simp] theorem c_clone51 : cf.clone 51 = none := rfl
@[simp] theorem k_out51 : kn.out 51 = .frz [] := rfl
@[simp] theorem k_args51 : kn.args 51 = [[some (.s 3)]] := rfl
@[simp] theorem k_nils51 : kn.nils 51 = fun _ => none := rfl
@[simp] theorem k_gc51 : kn.gc 51 = true := rfl
@[simp] theorem k_ali51 : kn.ali 51 = false := rfl
/-! 52: spec.l8own -/
@[simp] theorem c_keep52 (r : Nat) : cf.keep 52 r = tab52.getD r [] := rfl
@[simp] theorem c_pure52 : cf.pure 52 = true := rfl
@[simp] theorem c_pack52 : cf.pack 52 = .whole := rfl
@[simp] theorem c_wary52 (r : Nat) : cf.wary 52 r = false := rfl
@[simp] theorem c_clone52 : cf.clone 52 = none := rfl
@[simp] theorem k_out52 : kn.out 52 = .frz [[none, some (.s 3)]] := rfl
@[simp] theorem k_args52 : kn.args 52 = [[none, some (.s 3)]] := rfl
@[simp] theorem k_nils52 : kn.nils 52 = fun _ => none := rfl
@[simp] theorem k_gc52 : kn.gc 52 = true := rfl
@[simp] theorem k_ali52 : kn.ali 52 = false := rfl
/-! 53: spec.l8turn -/
@[simp] theorem c_keep53 (r : Nat) : cf.keep 53 r = tab53.getD r [] := rfl
@[simp] theorem c_pure53 : cf.pure 53 = true := rfl
@[simp] theorem c_pack53 : cf.pack 53 = .whole := rfl
@[simp] theorem c_wary53 (r : Nat) : cf.wary 53 r = false := rfl
@[simp] theorem c_clone53 : cf.clone 53 = none := rfl
@[simp] theorem k_out53 : kn.out 53 = .frz [[none, some (.s 3)]] := rfl
@[simp] theorem k_args53 : kn.args 53 = [[none, some (.s 3)]] := rfl
@[simp] theorem k_nils53 : kn.nils 53 = fun _ => none := rfl
@[simp] theorem k_gc53 : kn.gc 53 = true := rfl
@[simp] theorem k_ali53 : kn.ali 53 = false := rfl
/-! 54: impl.MatOk -/
@[simp] theorem c_keep54 (r : Nat) : cf.keep 54 r = tab54.getD r [] := rfl
@[simp] theorem c_pure54 : cf.pure 54 = true := rfl
@[simp] theorem c_pack54 : cf.pack 54 = .whole := rfl
@[simp] theorem c_wary54 (r : Nat) : cf.wary 54 r = false := rfl
@[simp] theorem c_clone54 : cf.clone 54 = none := rfl
@[simp] theorem k_out54 : kn.out 54 = .frz [] := rfl
@[simp] theorem k_args54 : kn.args 54 = [[none, some (.s 3)]] := rfl
@[simp] theorem k_nils54 : kn.nils 54 = fun _ => none := rfl
@[simp] theorem k_gc54 : kn.gc 54 = true := rfl
@[simp] theorem k_ali54 : kn.ali 54 = false := rfl
/-! 55: impl.gridOf -/
@[simp] theorem c_keep55 (r : Nat) : cf.keep 55 r = tab55.getD r [] := rfl
@[simp] theorem c_pure55 : cf.pure 55 = true := rfl
@[simp] theorem c_pack55 : cf.pack 55 = .whole := rfl
@[simp] theorem c_wary55 (r : Nat) : cf.wary 55 r = false := rfl
@[simp] theorem c_clone55 : cf.clone 55 = none := rfl
@[simp] theorem k_out55 : kn.out 55 = .frz [[none, some (.s 3)]] := rfl
@[simp] theorem k_args55 : kn.args 55 = [] := rfl
@[simp] theorem k_nils55 : kn.nils 55 = fun _ => none := rfl
@[simp] theorem k_gc55 : kn.gc 55 = true := rfl
@[simp] theorem k_ali55 : kn.ali 55 = false := rfl
/-! 56: impl.MatTurn$1 -/
@[simp] theorem c_keep56 (r : Nat) : cf.keep 56 r = tab56.getD r [] := rfl
@[simp] theorem c_pure56 : cf.pure 56 = true := rfl
@[simp] theorem c_pack56 : cf.pack 56 = .whole := rfl
@[simp] theorem c_wary56 (r : Nat) : cf.wary 56 r = false := rfl
@[simp] theorem c_clone56 : cf.clone 56 = none := rfl
@[simp] theorem k_out56 : kn.out 56 = .frz [[none, some (.i .i64)]] := rfl
@[simp] theorem k_args56 : kn.args 56 = [] := rfl
@[simp] theorem k_nils56 : kn.nils 56 = fun _ => none := rfl
@[simp] theorem k_gc56 : kn.gc 56 = true := rfl
@[simp] theorem k_ali56 : kn.ali 56 = false := rfl
/-! 57: spec.l9minor -/
@[simp] theorem c_keep57 (r : Nat) : cf.keep 57 r = tab57.getD r [] := rfl
@[simp] theorem c_pure57 : cf.pure 57 = true := rfl
@[simp] theorem c_pack57 : cf.pack 57 = .whole := rfl
@[simp] theorem c_wary57 (r : Nat) : cf.wary 57 r = false := rfl
@[simp] theorem c_clone57 : cf.clone 57 = none := rfl
@[simp] theorem k_out57 : kn.out 57 = .frz [[none, some (.s 3)]] := rfl
@[simp] theorem k_args57 : kn.args 57 = [[none, some (.s 3)]] := rfl
@[simp] theorem k_nils57 : kn.nils 57 = fun _ => none := rfl
@[simp] theorem k_gc57 : kn.gc 57 = true := rfl
@[simp] theorem k_ali57 : kn.ali 57 = false := rfl
/-! 58: (impl.grid).minor -/
@[simp] theorem c_keep58 (r : Nat) : cf.keep 58 r = tab58.getD r [] := rfl
@[simp] theorem c_pure58 : cf.pure 58 = true := rfl
@[simp] theorem c_pack58 : cf.pack 58 = .whole := rfl
@[simp] theorem c_wary58 (r : Nat) : cf.wary 58 r = false := rfl
@[simp] theorem c_clone58 : cf.clone 58 = none := rfl
@[simp] theorem k_out58 : kn.out 58 = .frz [[none, some (.s 3)]] := rfl
@[simp] theorem k_args58 : kn.args 58 = [[none, some (.s 3)]] := rfl
@[simp] theorem k_nils58 : kn.nils 58 = fun _ => none := rfl
@[simp] theorem k_gc58 : kn.gc 58 = true := rfl
@[simp] theorem k_ali58 : kn.ali 58 = false := rfl
/-! 59: laws.szWhole -/
@[simp] theorem c_keep59 (r : Nat) : cf.keep 59 r = tab59.getD r [] := rfl
@[simp] theorem c_pure59 : cf.pure 59 = true := rfl
@[simp] theorem c_pack59 : cf.pack 59 = .whole := rfl
@[simp] theorem c_wary59 (r : Nat) : cf.wary 59 r = false := rfl
@[simp] theorem c_clone59 : cf.clone 59 = none := rfl
@[simp] theorem k_out59 : kn.out 59 = .frz [] := rfl
@[simp] theorem k_args59 : kn.args 59 = [[none, some (.i .i64)]] := rfl
@[simp] theorem k_nils59 : kn.nils 59 = fun _ => none := rfl
@[simp] theorem k_gc59 : kn.gc 59 = true := rfl
@[simp] theorem k_ali59 : kn.ali 59 = false := rfl
/-! 60: spec.DyOk -/
@[simp] theorem c_keep60 (r : Nat) : cf.keep 60 r = tab60.getD r [] := rfl
@[simp] theorem c_pure60 : cf.pure 60 = true := rfl
@[simp] theorem c_pack60 : cf.pack 60 = .whole := rfl
@[simp] theorem c_wary60 (r : Nat) : cf.wary 60 r = false := rfl
@[simp] theorem c_clone60 : cf.clone 60 = none := rfl
@[simp] theorem k_out60 : kn.out 60 = .frz [] := rfl
@[simp] theorem k_args60 : kn.args 60 = [[none, some (.i .i64)]] := rfl
@[simp] theorem k_nils60 : kn.nils 60 = fun _ => none := rfl
@[simp] theorem k_gc60 : kn.gc 60 = true := rfl
@[simp] theorem k_ali60 : kn.ali 60 = false := rfl
/-! 61: spec.l8fits -/
@[simp] theorem c_keep61 (r : Nat) : cf.keep 61 r = tab61.getD r [] := rfl
@[simp] theorem c_pure61 : cf.pure 61 = true := rfl
@[simp] theorem c_pack61 : cf.pack 61 = .whole := rfl
@[simp] theorem c_wary61 (r : Nat) : cf.wary 61 r = false := rfl
@[simp] theorem c_clone61 : cf.clone 61 = none := rfl
@[simp] theorem k_out61 : kn.out 61 = .frz [[none, some (.s 3)]] := rfl
@[simp] theorem k_args61 : kn.args 61 = [[none, some (.s 3)]] := rfl
@[simp] theorem k_nils61 : kn.nils 61 = fun _ => none := rfl
@[simp] theorem k_gc61 : kn.gc 61 = true := rfl
@[simp] theorem k_ali61 : kn.ali 61 = false := rfl
/-! 62: spec.l8scale -/
@[simp] theorem c_keep62 (r : Nat) : cf.keep 62 r = tab62.getD r [] := rfl
@[simp] theorem c_pure62 : cf.pure 62 = true := rfl
@[simp] theorem c_pack62 : cf.pack 62 = .whole := rfl
@[simp] theorem c_wary62 (r : Nat) : cf.wary 62 r = false := rfl
@[simp] theorem c_clone62 : cf.clone 62 = none := rfl
@[simp] theorem k_out62 : kn.out 62 = .frz [[none, some (.s 3)]] := rfl
@[simp] theorem k_args62 : kn.args 62 = [[none, some (.s 3)], [none, some (.i .i64)]] := rfl
@[simp] theorem k_nils62 : kn.nils 62 = fun _ => none := rfl
@[simp] theorem k_gc62 : kn.gc 62 = true := rfl
@[simp] theorem k_ali62 : kn.ali 62 = false := rfl
/-! 63: laws.toWhole -/
@[simp] theorem c_keep63 (r : Nat) : cf.keep 63 r = tab63.getD r [] := rfl
@[simp] theorem c_pure63 : cf.pure 63 = true := rfl
@[simp] theorem c_pack63 : cf.pack 63 = .whole := rfl
@[simp] theorem c_wary63 (r : Nat) : cf.wary 63 r = false := rfl
@[simp] theorem c_clone63 : cf.clone 63 = none := rfl
@[simp] theorem k_out63 : kn.out 63 = .own [[none, some (.i .i64)]] := rfl
@[simp] theorem k_args63 : kn.args 63 = [[none, some (.i .i64)]] := rfl
@[simp] theorem k_nils63 : kn.nils 63 = fun _ => none := rfl
@[simp] theorem k_gc63 : kn.gc 63 = true := rfl
@[simp] theorem k_ali63 : kn.ali 63 = false := rfl
/-! 64: impl.DyOk -/
@[simp] theorem c_keep64 (r : Nat) : cf.keep 64 r = tab64.getD r [] := rfl
@[simp] theorem c_pure64 : cf.pure 64 = true := rfl
@[simp] theorem c_pack64 : cf.pack 64 = .whole := rfl
@[simp] theorem c_wary64 (r : Nat) : cf.wary 64 r = false := rfl
@[simp] theorem c_clone64 : cf.clone 64 = none := rfl
@[simp] theorem k_out64 : kn.out 64 = .frz [] := rfl
@[simp] theorem k_args64 : kn.args 64 = [[none, some (.i .i64)]] := rfl
@[simp] theorem k_nils64 : kn.nils 64 = fun _ => none := rfl
@[simp] theorem k_gc64 : kn.gc 64 = true := rfl
@[simp] theorem k_ali64 : kn.ali 64 = false := rfl
/-! 65: (impl.grid).scaled -/
@[simp] theorem c_keep65 (r : Nat) : cf.keep 65 r = tab65.getD r [] := rfl
@[simp] theorem c_pure65 : cf.pure 65 = true := rfl
@[simp] theorem c_pack65 : cf.pack 65 = .whole := rfl
@[simp] theorem c_wary65 (r : Nat) : cf.wary 65 r = false := rfl
@[simp] theorem c_clone65 : cf.clone 65 = none := rfl
@[simp] theorem k_out65 : kn.out 65 = .frz [[none, some (.s 3)]] := rfl
@[simp] theorem k_args65 : kn.args 65 = [[none, some (.s 3)], [none, some (.i .i64)]] := rfl
@[simp] theorem k_nils65 : kn.nils 65 = fun _ => none := rfl
@[simp] theorem k_gc65 : kn.gc 65 = true := rfl
@[simp] theorem k_ali65 : kn.ali 65 = false := rfl
/-! 66: (impl.Dy).exact -/
@[simp] theorem c_keep66 (r : Nat) : cf.keep 66 r = tab66.getD r [] := rfl
@[simp] theorem c_pure66 : cf.pure 66 = true := rfl
@[simp] theorem c_pack66 : cf.pack 66 = .whole := rfl
@[simp] theorem c_wary66 (r : Nat) : cf.wary 66 r = false := rfl
@[simp] theorem c_clone66 : cf.clone 66 = none := rfl
@[simp] theorem k_out66 : kn.out 66 = .frz [[none, some (.i .i64)]] := rfl
@[simp] theorem k_args66 : kn.args 66 = [[none, some (.i .i64)]] := rfl
@[simp] theorem k_nils66 : kn.nils 66 = fun _ => none := rfl
@[simp] theorem k_gc66 : kn.gc 66 = true := rfl
@[simp] theorem k_ali66 : kn.ali 66 = false := rfl
/-! 67: spec.l10fits -/
@[simp] theorem c_keep67 (r : Nat) : cf.keep 67 r = tab67.getD r [] := rfl
@[simp] theorem c_pure67 : cf.pure 67 = true := rfl
@[simp] theorem c_pack67 : cf.pack 67 = .whole := rfl
@[simp] theorem c_wary67 (r : Nat) : cf.wary 67 r = false := rfl
@[simp] theorem c_clone67 : cf.clone 67 = none := rfl
@[simp] theorem k_out67 : kn.out 67 = .frz [[none, some (.s 6)]] := rfl
@[simp] theorem k_args67 : kn.args 67 = [[none, some (.s 6)]] := rfl
@[simp] theorem k_nils67 : kn.nils 67 = fun _ => none := rfl
@[simp] theorem k_gc67 : kn.gc 67 = true := rfl
@[simp] theorem k_ali67 : kn.ali 67 = false := rfl
/-! 68: spec.l10of -/
@[simp] theorem c_keep68 (r : Nat) : cf.keep 68 r = tab68.getD r [] := rfl
@[simp] theorem c_pure68 : cf.pure 68 = true := rfl
@[simp] theorem c_pack68 : cf.pack 68 = .whole := rfl
@[simp] theorem c_wary68 (r : Nat) : cf.wary 68 r = false := rfl
@[simp] theorem c_clone68 : cf.clone 68 = none := rfl
@[simp] theorem k_out68 : kn.out 68 = .frz [[none, some (.s 6)]] := rfl
@[simp] theorem k_args68 : kn.args 68 = [[none, some (.s 3)]] := rfl
@[simp] theorem k_nils68 : kn.nils 68 = fun _ => none := rfl
@[simp] theorem k_gc68 : kn.gc 68 = true := rfl
@[simp] theorem k_ali68 : kn.ali 68 = false := rfl
/-! 69: impl.fieldOf -/
@[simp] theorem c_keep69 (r : Nat) : cf.keep 69 r = tab69.getD r [] := rfl
@[simp] theorem c_pure69 : cf.pure 69 = true := rfl
@[simp] theorem c_pack69 : cf.pack 69 = .whole := rfl
@[simp] theorem c_wary69 (r : Nat) : cf.wary 69 r = false := rfl
@[simp] theorem c_clone69 : cf.clone 69 = none := rfl
@[simp] theorem k_out69 : kn.out 69 = .frz [[none, some (.s 6)]] := rfl
@[simp] theorem k_args69 : kn.args 69 = [[none, some (.s 3)]] := rfl
@[simp] theorem k_nils69 : kn.nils 69 = fun _ => none := rfl
@[simp] theorem k_gc69 : kn.gc 69 = true := rfl
@[simp] theorem k_ali69 : kn.ali 69 = false := rfl
/-! 70: (impl.field).ivMat -/
@[simp] theorem c_keep70 (r : Nat) : cf.keep 70 r = tab70.getD r [] := rfl
@[simp] theorem c_pure70 : cf.pure 70 = true := rfl
@[simp] theorem c_pack70 : cf.pack 70 = .whole := rfl
@[simp] theorem c_wary70 (r : Nat) : cf.wary 70 r = false := rfl
@[simp] theorem c_clone70 : cf.clone 70 = none := rfl
@[simp] theorem k_out70 : kn.out 70 = .own [[none, some (.s 6)]] := rfl
@[simp] theorem k_args70 : kn.args 70 = [[none, some (.s 6)]] := rfl
@[simp] theorem k_nils70 : kn.nils 70 = fun _ => none := rfl
@[simp] theorem k_gc70 : kn.gc 70 = false := rfl
@[simp] theorem k_ali70 : kn.ali 70 = false := rfl
/-! 71: laws.eqIvS -/
@[simp] theorem c_keep71 (r : Nat) : cf.keep 71 r = tab71.getD r [] := rfl
@[simp] theorem c_pure71 : cf.pure 71 = true := rfl
@[simp] theorem c_pack71 : cf.pack 71 = .whole := rfl
@[simp] theorem c_wary71 (r : Nat) : cf.wary 71 r = false := rfl
@[simp] theorem c_clone71 : cf.clone 71 = none := rfl
@[simp] theorem k_out71 : kn.out 71 = .frz [] := rfl
@[simp] theorem k_args71 : kn.args 71 = [[some (.s 6)], [some (.s 6)]] := rfl
@[simp] theorem k_nils71 : kn.nils 71 = fun _ => none := rfl
@[simp] theorem k_gc71 : kn.gc 71 = true := rfl
@[simp] theorem k_ali71 : kn.ali 71 = false := rfl
/-! 72: laws.markIvS -/
@[simp] theorem c_keep72 (r : Nat) : cf.keep 72 r = tab72.getD r [] := rfl
@[simp] theorem c_pure72 : cf.pure 72 = false := rfl
@[simp] theorem c_pack72 : cf.pack 72 = .whole := rfl
@[simp] theorem c_wary72 (r : Nat) : cf.wary 72 r = false := rfl
@[simp] theorem c_clone72 : cf.clone 72 = none := rfl
@[simp] theorem k_out72 : kn.out 72 = .inl := rfl
@[simp] theorem k_args72 : kn.args 72 = [] := rfl
@[simp] theorem k_nils72 : kn.nils 72 = fun _ => none := rfl
@[simp] theorem k_gc72 : kn.gc 72 = false := rfl
@[simp] theorem k_ali72 : kn.ali 72 = false := rfl
/-! 73: laws.heldIvS -/
@[simp] theorem c_keep73 (r : Nat) : cf.keep 73 r = tab73.getD r [] := rfl
@[simp] theorem c_pure73 : cf.pure 73 = true := rfl
@[simp] theorem c_pack73 : cf.pack 73 = .whole := rfl
@[simp] theorem c_wary73 (r : Nat) : cf.wary 73 r = false := rfl
@[simp] theorem c_clone73 : cf.clone 73 = none := rfl
@[simp] theorem k_out73 : kn.out 73 = .frz [] := rfl
@[simp] theorem k_args73 : kn.args 73 = [[some (.s 6)]] := rfl
@[simp] theorem k_nils73 : kn.nils 73 = fun _ => none := rfl
@[simp] theorem k_gc73 : kn.gc 73 = true := rfl
@[simp] theorem k_ali73 : kn.ali 73 = false := rfl
/-! 74: spec.l3make -/
@[simp] theorem c_keep74 (r : Nat) : cf.keep 74 r = tab74.getD r [] := rfl
@[simp] theorem c_pure74 : cf.pure 74 = true := rfl
@[simp] theorem c_pack74 : cf.pack 74 = .whole := rfl
@[simp] theorem c_wary74 (r : Nat) : cf.wary 74 r = false := rfl
@[simp] theorem c_clone74 : cf.clone 74 = none := rfl
@[simp] theorem k_out74 : kn.out 74 = .frz [[none, some (.i .i64)]] := rfl
@[simp] theorem k_args74 : kn.args 74 = [[], [some (.i .i64)]] := rfl
@[simp] theorem k_nils74 : kn.nils 74 = fun _ => none := rfl
@[simp] theorem k_gc74 : kn.gc 74 = true := rfl
@[simp] theorem k_ali74 : kn.ali 74 = false := rfl
/-! 75: (impl.exact).odd -/
@[simp] theorem c_keep75 (r : Nat) : cf.keep 75 r = tab75.getD r [] := rfl
@[simp] theorem c_pure75 : cf.pure 75 = true := rfl
@[simp] theorem c_pack75 : cf.pack 75 = .whole := rfl
@[simp] theorem c_wary75 (r : Nat) : cf.wary 75 r = false := rfl
@[simp] theorem c_clone75 : cf.clone 75 = none := rfl
@[simp] theorem k_out75 : kn.out 75 = .frz [[none, some (.i .i64)]] := rfl
@[simp] theorem k_args75 : kn.args 75 = [[none, some (.i .i64)]] := rfl
@[simp] theorem k_nils75 : kn.nils 75 = fun _ => none := rfl
@[simp] theorem k_gc75 : kn.gc 75 = true := rfl
@[simp] theorem k_ali75 : kn.ali 75 = false := rfl
/-! 76: impl.wholeOf -/
@[simp] theorem c_keep76 (r : Nat) : cf.keep 76 r = tab76.getD r [] := rfl
@[simp] theorem c_pure76 : cf.pure 76 = true := rfl
@[simp] theorem c_pack76 : cf.pack 76 = .whole := rfl
@[simp] theorem c_wary76 (r : Nat) : cf.wary 76 r = false := rfl
@[simp] theorem c_clone76 : cf.clone 76 = none := rfl
@[simp] theorem k_out76 : kn.out 76 = .own [[none, some (.i .i64)]] := rfl
@[simp] theorem k_args76 : kn.args 76 = [[], [some (.i .i64)]] := rfl
@[simp] theorem k_nils76 : kn.nils 76 = fun _ => none := rfl
@[simp] theorem k_gc76 : kn.gc 76 = true := rfl
@[simp] theorem k_ali76 : kn.ali 76 = false := rfl
/-! 77: laws.eqNat -/
@[simp] theorem c_keep77 (r : Nat) : cf.keep 77 r = tab77.getD r [] := rfl
@[simp] theorem c_pure77 : cf.pure 77 = true := rfl
@[simp] theorem c_pack77 : cf.pack 77 = .whole := rfl
@[simp] theorem c_wary77 (r : Nat) : cf.wary 77 r = false := rfl
@[simp] theorem c_clone77 : cf.clone 77 = none := rfl
@[simp] theorem k_out77 : kn.out 77 = .frz [] := rfl
@[simp] theorem k_args77 : kn.args 77 = [[some (.i .i64)], [some (.i .i64)]] := rfl
@[simp] theorem k_nils77 : kn.nils 77 = fun _ => none := rfl
@[simp] theorem k_gc77 : kn.gc 77 = true := rfl
@[simp] theorem k_ali77 : kn.ali 77 = false := rfl
/-! 78: laws.markIntS -/
@[simp] theorem c_keep78 (r : Nat) : cf.keep 78 r = tab78.getD r [] := rfl
@[simp] theorem c_pure78 : cf.pure 78 = false := rfl
@[simp] theorem c_pack78 : cf.pack 78 = .whole := rfl
@[simp] theorem c_wary78 (r : Nat) : cf.wary 78 r = false := rfl
@[simp] theorem c_clone78 : cf.clone 78 = none := rfl
@[simp] theorem k_out78 : kn.out 78 = .inl := rfl
@[simp] theorem k_args78 : kn.args 78 = [] := rfl
@[simp] theorem k_nils78 : kn.nils 78 = fun _ => none := rfl
@[simp] theorem k_gc78 : kn.gc 78 = false := rfl
@[simp] theorem k_ali78 : kn.ali 78 = false := rfl
/-! 79: laws.markNat -/
@[simp] theorem c_keep79 (r : Nat) : cf.keep 79 r = tab79.getD r [] := rfl
@[simp] theorem c_pure79 : cf.pure 79 = false := rfl
@[simp] theorem c_pack79 : cf.pack 79 = .whole := rfl
@[simp] theorem c_wary79 (r : Nat) : cf.wary 79 r = false := rfl
@[simp] theorem c_clone79 : cf.clone 79 = none := rfl
@[simp] theorem k_out79 : kn.out 79 = .inl := rfl
@[simp] theorem k_args79 : kn.args 79 = [] := rfl
@[simp] theorem k_nils79 : kn.nils 79 = fun _ => none := rfl
@[simp] theorem k_gc79 : kn.gc 79 = false := rfl
@[simp] theorem k_ali79 : kn.ali 79 = false := rfl
/-! 80: laws.heldNat -/
@[simp] theorem c_keep80 (r : Nat) : cf.keep 80 r = tab80.getD r [] := rfl
@[simp] theorem c_pure80 : cf.pure 80 = true := rfl
@[simp] theorem c_pack80 : cf.pack 80 = .whole := rfl
@[simp] theorem c_wary80 (r : Nat) : cf.wary 80 r = false := rfl
@[simp] theorem c_clone80 : cf.clone 80 = none := rfl
@[simp] theorem k_out80 : kn.out 80 = .frz [] := rfl
@[simp] theorem k_args80 : kn.args 80 = [[some (.i .i64)]] := rfl
@[simp] theorem k_nils80 : kn.nils 80 = fun _ => none := rfl
@[simp] theorem k_gc80 : kn.gc 80 = true := rfl
@[simp] theorem k_ali80 : kn.ali 80 = false := rfl
/-! 81: spec.l8new -/
@[simp] theorem c_keep81 (r : Nat) : cf.keep 81 r = tab81.getD r [] := rfl
@[simp] theorem c_pure81 : cf.pure 81 = true := rfl
@[simp] theorem c_pack81 : cf.pack 81 = .whole := rfl
@[simp] theorem c_wary81 (r : Nat) : cf.wary 81 r = false := rfl
@[simp] theorem c_clone81 : cf.clone 81 = none := rfl
@[simp] theorem k_out81 : kn.out 81 = .own [[none, some (.s 3)]] := rfl
@[simp] theorem k_args81 : kn.args 81 = [] := rfl
@[simp] theorem k_nils81 : kn.nils 81 = fun _ => none := rfl
@[simp] theorem k_gc81 : kn.gc 81 = true := rfl
@[simp] theorem k_ali81 : kn.ali 81 = false := rfl
/-! 82: spec.l4make -/
@[simp] theorem c_keep82 (r : Nat) : cf.keep 82 r = tab82.getD r [] := rfl
@[simp] theorem c_pure82 : cf.pure 82 = true := rfl
@[simp] theorem c_pack82 : cf.pack 82 = .whole := rfl
@[simp] theorem c_wary82 (r : Nat) : cf.wary 82 r = false := rfl
@[simp] theorem c_clone82 : cf.clone 82 = none := rfl
@[simp] theorem k_out82 : kn.out 82 = .frz [[none, some (.i .i64)]] := rfl
@[simp] theorem k_args82 : kn.args 82 = [[none, some (.i .i64)]] := rfl
@[simp] theorem k_nils82 : kn.nils 82 = fun _ => none := rfl
@[simp] theorem k_gc82 : kn.gc 82 = true := rfl
@[simp] theorem k_ali82 : kn.ali 82 = false := rfl
/-! 83: spec.l3of -/
@[simp] theorem c_keep83 (r : Nat) : cf.keep 83 r = tab83.getD r [] := rfl
@[simp] theorem c_pure83 : cf.pure 83 = true := rfl
@[simp] theorem c_pack83 : cf.pack 83 = .whole := rfl
@[simp] theorem c_wary83 (r : Nat) : cf.wary 83 r = false := rfl
@[simp] theorem c_clone83 : cf.clone 83 = none := rfl
@[simp] theorem k_out83 : kn.out 83 = .frz [[none, some (.i .i64)]] := rfl
@[simp] theorem k_args83 : kn.args 83 = [] := rfl
@[simp] theorem k_nils83 : kn.nils 83 = fun _ => none := rfl
@[simp] theorem k_gc83 : kn.gc 83 = true := rfl
@[simp] theorem k_ali83 : kn.ali 83 = false := rfl
/-! 84: impl.identity$1 -/
@[simp] theorem c_keep84 (r : Nat) : cf.keep 84 r = tab84.getD r [] := rfl
@[simp] theorem c_pure84 : cf.pure 84 = true := rfl
@[simp] theorem c_pack84 : cf.pack 84 = .whole := rfl
@[simp] theorem c_wary84 (r : Nat) : cf.wary 84 r = false := rfl
@[simp] theorem c_clone84 : cf.clone 84 = none := rfl
@[simp] theorem k_out84 : kn.out 84 = .frz [[none, some (.i .i64)]] := rfl
@[simp] theorem k_args84 : kn.args 84 = [] := rfl
@[simp] theorem k_nils84 : kn.nils 84 = fun _ => none := rfl
@[simp] theorem k_gc84 : kn.gc 84 = true := rfl
@[simp] theorem k_ali84 : kn.ali 84 = false := rfl
/-! 85: impl.one -/
@[simp] theorem c_keep85 (r : Nat) : cf.keep 85 r = tab85.getD r [] := rfl
@[simp] theorem c_pure85 : cf.pure 85 = true := rfl
@[simp] theorem c_pack85 : cf.pack 85 = .whole := rfl
@[simp] theorem c_wary85 (r : Nat) : cf.wary 85 r = false := rfl
@[simp] theorem c_clone85 : cf.clone 85 = none := rfl
@[simp] theorem k_out85 : kn.out 85 = .frz [[none, some (.i .i64)]] := rfl
@[simp] theorem k_args85 : kn.args 85 = [] := rfl
@[simp] theorem k_nils85 : kn.nils 85 = fun _ => none := rfl
@[simp] theorem k_gc85 : kn.gc 85 = true := rfl
@[simp] theorem k_ali85 : kn.ali 85 = false := rfl
/-! 86: impl.dysOf -/
@[simp] theorem c_keep86 (r : Nat) : cf.keep 86 r = tab86.getD r [] := rfl
@[simp] theorem c_pure86 : cf.pure 86 = true := rfl
@[simp] theorem c_pack86 : cf.pack 86 = .whole := rfl
@[simp] theorem c_wary86 (r : Nat) : cf.wary 86 r = false := rfl
@[simp] theorem c_clone86 : cf.clone 86 = none := rfl
@[simp] theorem k_out86 : kn.out 86 = .own [[some (.s 3)]] := rfl
@[simp] theorem k_args86 : kn.args 86 = [[some (.s 3)]] := rfl
@[simp] theorem k_nils86 : kn.nils 86 = nil86 := rfl
@[simp] theorem k_gc86 : kn.gc 86 = false := rfl
@[simp] theorem k_ali86 : kn.ali 86 = false := rfl
/-! 87: laws.heldIntS -/
@[simp] theorem c_keep87 (r : Nat) : cf.keep 87 r = tab87.getD r [] := rfl
@[simp] theorem c_pure87 : cf.pure 87 = true := rfl
@[simp] theorem c_pack87 : cf.pack 87 = .whole := rfl
@[simp] theorem c_wary87 (r : Nat) : cf.wary 87 r = false := rfl
@[simp] theorem c_clone87 : cf.clone 87 = none := rfl
@[simp] theorem k_out87 : kn.out 87 = .frz [] := rfl
@[simp] theorem k_args87 : kn.args 87 = [[some (.i .i64)]] := rfl
@[simp] theorem k_nils87 : kn.nils 87 = fun _ => none := rfl
@[simp] theorem k_gc87 : kn.gc 87 = true := rfl
@[simp] theorem k_ali87 : kn.ali 87 = false := rfl
/-! 88: impl.areDys -/
@[simp] theorem c_keep88 (r : Nat) : cf.keep 88 r = tab88.getD r [] := rfl
@[simp] theorem c_pure88 : cf.pure 88 = true := rfl
@[simp] theorem c_pack88 : cf.pack 88 = .whole := rfl
@[simp] theorem c_wary88 (r : Nat) : cf.wary 88 r = false := rfl
@[simp] theorem c_clone88 : cf.clone 88 = none := rfl
@[simp] theorem k_out88 : kn.out 88 = .frz [] := rfl
@[simp] theorem k_args88 : kn.args 88 = [[some (.s 3)]] := rfl
@[simp] theorem k_nils88 : kn.nils 88 = fun _ => none := rfl
@[simp] theorem k_gc88 : kn.gc 88 = true := rfl
@[simp] theorem k_ali88 : kn.ali 88 = false := rfl
/-! 89: laws.szNat -/
@[simp] theorem c_keep89 (r : Nat) : cf.keep 89 r = tab89.getD r [] := rfl
@[simp] theorem c_pure89 : cf.pure 89 = true := rfl
@[simp] theorem c_pack89 : cf.pack 89 = .whole := rfl
@[simp] theorem c_wary89 (r : Nat) : cf.wary 89 r = false := rfl
@[simp] theorem c_clone89 : cf.clone 89 = none := rfl
@[simp] theorem k_out89 : kn.out 89 = .frz [] := rfl
@[simp] theorem k_args89 : kn.args 89 = [[some (.i .i64)]] := rfl
@[simp] theorem k_nils89 : kn.nils 89 = fun _ => none := rfl
@[simp] theorem k_gc89 : kn.gc 89 = true := rfl
@[simp] theorem k_ali89 : kn.ali 89 = false := rfl
/-! 90: spec.WholeOk -/
@[simp] theorem c_keep90 (r : Nat) : cf.keep 90 r = tab90.getD r [] := rfl
@[simp] theorem c_pure90 : cf.pure 90 = true := rfl
@[simp] theorem c_pack90 : cf.pack 90 = .whole := rfl
@[simp] theorem c_wary90 (r : Nat) : cf.wary 90 r = false := rfl
@[simp] theorem c_clone90 : cf.clone 90 = none := rfl
@[simp] theorem k_out90 : kn.out 90 = .frz [] := rfl
@[simp] theorem k_args90 : kn.args 90 = [[none, some (.i .i64)]] := rfl
@[simp] theorem k_nils90 : kn.nils 90 = fun _ => none := rfl
@[simp] theorem k_gc90 : kn.gc 90 = true := rfl
@[simp] theorem k_ali90 : kn.ali 90 = false := rfl
/-! 91: spec.l2bit -/
@[simp] theorem c_keep91 (r : Nat) : cf.keep 91 r = tab91.getD r [] := rfl
@[simp] theorem c_pure91 : cf.pure 91 = true := rfl
@[simp] theorem c_pack91 : cf.pack 91 = .whole := rfl
@[simp] theorem c_wary91 (r : Nat) : cf.wary 91 r = false := rfl
@[simp] theorem c_clone91 : cf.clone 91 = none := rfl
@[simp] theorem k_out91 : kn.out 91 = .frz [] := rfl
@[simp] theorem k_args91 : kn.args 91 = [[some (.i .i64)]] := rfl
@[simp] theorem k_nils91 : kn.nils 91 = fun _ => none := rfl
@[simp] theorem k_gc91 : kn.gc 91 = true := rfl
@[simp] theorem k_ali91 : kn.ali 91 = false := rfl
/-! 92: spec.l4mul -/
@[simp] theorem c_keep92 (r : Nat) : cf.keep 92 r = tab92.getD r [] := rfl
@[simp] theorem c_pure92 : cf.pure 92 = true := rfl
@[simp] theorem c_pack92 : cf.pack 92 = .whole := rfl
@[simp] theorem c_wary92 (r : Nat) : cf.wary 92 r = false := rfl
@[simp] theorem c_clone92 : cf.clone 92 = none := rfl
@[simp] theorem k_out92 : kn.out 92 = .frz [[none, some (.i .i64)]] := rfl
@[simp] theorem k_args92 : kn.args 92 = [[none, some (.i .i64)], [none, some (.i .i64)]] := rfl
@[simp] theorem k_nils92 : kn.nils 92 = fun _ => none := rfl
@[simp] theorem k_gc92 : kn.gc 92 = true := rfl
@[simp] theorem k_ali92 : kn.ali 92 = false := rfl
/-! 93: laws.toNat -/
@[simp] theorem c_keep93 (r : Nat) : cf.keep 93 r = tab93.getD r [] := rfl
@[simp] theorem c_pure93 : cf.pure 93 = true := rfl
@[simp] theorem c_pack93 : cf.pack 93 = .whole := rfl
@[simp] theorem c_wary93 (r : Nat) : cf.wary 93 r = false := rfl
@[simp] theorem c_clone93 : cf.clone 93 = none := rfl
@[simp] theorem k_out93 : kn.out 93 = .own [[some (.i .i64)]] := rfl
@[simp] theorem k_args93 : kn.args 93 = [[some (.i .i64)]] := rfl
@[simp] theorem k_nils93 : kn.nils 93 = fun _ => none := rfl
@[simp] theorem k_gc93 : kn.gc 93 = true := rfl
@[simp] theorem k_ali93 : kn.ali 93 = false := rfl
/-! 94: impl.WholeOk -/
@[simp] theorem c_keep94 (r : Nat) : cf.keep 94 r = tab94.getD r [] := rfl
@[simp] theorem c_pure94 : cf.pure 94 = true := rfl
@[simp] theorem c_pack94 : cf.pack 94 = .whole := rfl
@[simp] theorem c_wary94 (r : Nat) : cf.wary 94 r = false := rfl
@[simp] theorem c_clone94 : cf.clone 94 = none := rfl
@[simp] theorem k_out94 : kn.out 94 = .frz [] := rfl
@[simp] theorem k_args94 : kn.args 94 = [[none, some (.i .i64)]] := rfl
@[simp] theorem k_nils94 : kn.nils 94 = fun _ => none := rfl
@[simp] theorem k_gc94 : kn.gc 94 = true := rfl
@[simp] theorem k_ali94 : kn.ali 94 = false := rfl
/-! 95: impl.bitOf -/
@[simp] theorem c_keep95 (r : Nat) : cf.keep 95 r = tab95.getD r [] := rfl
@[simp] theorem c_pure95 : cf.pure 95 = true := rfl
@[simp] theorem c_pack95 : cf.pack 95 = .whole := rfl
@[simp] theorem c_wary95 (r : Nat) : cf.wary 95 r = false := rfl
@[simp] theorem c_clone95 : cf.clone 95 = none := rfl
@[simp] theorem k_out95 : kn.out 95 = .frz [] := rfl
@[simp] theorem k_args95 : kn.args 95 = [[some (.i .i64)]] := rfl
@[simp] theorem k_nils95 : kn.nils 95 = fun _ => none := rfl
@[simp] theorem k_gc95 : kn.gc 95 = true := rfl
@[simp] theorem k_ali95 : kn.ali 95 = false := rfl
/-! 96: (impl.grid).scaled$1 -/
@[simp] theorem c_keep96 (r : Nat) : cf.keep 96 r = tab96.getD r [] := rfl
@[simp] theorem c_pure96 : cf.pure 96 = true := rfl
@[simp] theorem c_pack96 : cf.pack 96 = .whole := rfl
@[simp] theorem c_wary96 (r : Nat) : cf.wary 96 r = false := rfl
@[simp] theorem c_clone96 : cf.clone 96 = none := rfl
@[simp] theorem k_out96 : kn.out 96 = .frz [[none, some (.i .i64)]] := rfl
@[simp] theorem k_args96 : kn.args 96 = [] := rfl
@[simp] theorem k_nils96 : kn.nils 96 = fun _ => none := rfl
@[simp] theorem k_gc96 : kn.gc 96 = true := rfl
@[simp] theorem k_ali96 : kn.ali 96 = false := rfl
/-! 97: (impl.exact).times -/
@[simp] theorem c_keep97 (r : Nat) : cf.keep 97 r = tab97.getD r [] := rfl
@[simp] theorem c_pure97 : cf.pure 97 = true := rfl
@[simp] theorem c_pack97 : cf.pack 97 = .whole := rfl
@[simp] theorem c_wary97 (r : Nat) : cf.wary 97 r = false := rfl
@[simp] theorem c_clone97 : cf.clone 97 = none := rfl
@[simp] theorem k_out97 : kn.out 97 = .frz [[none, some (.i .i64)]] := rfl
@[simp] theorem k_args97 : kn.args 97 = [[none, some (.i .i64)], [none, some (.i .i64)]] := rfl
@[simp] theorem k_nils97 : kn.nils 97 = fun _ => none := rfl
@[simp] theorem k_gc97 : kn.gc 97 = true := rfl
@[simp] theorem k_ali97 : kn.ali 97 = false := rfl
/-! 98: spec.IvMatOk -/
@[simp] theorem c_keep98 (r : Nat) : cf.keep 98 r = tab98.getD r [] := rfl
@[simp] theorem c_pure98 : cf.pure 98 = true := rfl
@[simp] theorem c_pack98 : cf.pack 98 = .whole := rfl
@[simp] theorem c_wary98 (r : Nat) : cf.wary 98 r = false := rfl
@[simp] theorem c_clone98 : cf.clone 98 = none := rfl
@[simp] theorem k_out98 : kn.out 98 = .frz [] := rfl
@[simp] theorem k_args98 : kn.args 98 = [[none, some (.s 6)]] := rfl
@[simp] theorem k_nils98 : kn.nils 98 = fun _ => none := rfl
@[simp] theorem k_gc98 : kn.gc 98 = true := rfl
@[simp] theorem k_ali98 : kn.ali 98 = false := rfl
/-! 99: spec.l10new -/
@[simp] theorem c_keep99 (r : Nat) : cf.keep 99 r = tab99.getD r [] := rfl
@[simp] theorem c_pure99 : cf.pure 99 = true := rfl
@[simp] theorem c_pack99 : cf.pack 99 = .whole := rfl
@[simp] theorem c_wary99 (r : Nat) : cf.wary 99 r = false := rfl
@[simp] theorem c_clone99 : cf.clone 99 = none := rfl
@[simp] theorem k_out99 : kn.out 99 = .own [[none, some (.s 6)]] := rfl
@[simp] theorem k_args99 : kn.args 99 = [] := rfl
@[simp] theorem k_nils99 : kn.nils 99 = fun _ => none := rfl
@[simp] theorem k_gc99 : kn.gc 99 = true := rfl
@[simp] theorem k_ali99 : kn.ali 99 = false := rfl
/-! 100: (impl.span).iv -/
@[simp] theorem c_keep100 (r : Nat) : cf.keep 100 r = tab100.getD r [] := rfl
@[simp] theorem c_pure100 : cf.pure 100 = true := rfl
@[simp] theorem c_pack100 : cf.pack 100 = .whole := rfl
@[simp] theorem c_wary100 (r : Nat) : cf.wary 100 r = false := rfl
@[simp] theorem c_clone100 : cf.clone 100 = none := rfl
@[simp] theorem k_out100 : kn.out 100 = .own [[none, some (.i .i64), none, none, some (.i .i64)]] := rfl
@[simp] theorem k_args100 : kn.args 100 = [[none, some (.i .i64), none, none, some (.i .i64)]] := rfl
@[simp] theorem k_nils100 : kn.nils 100 = fun _ => none := rfl
@[simp] theorem k_gc100 : kn.gc 100 = true := rfl
@[simp] theorem k_ali100 : kn.ali 100 = false := rfl
/-! 101: laws.eqIv -/
@[simp] theorem c_keep101 (r : Nat) : cf.keep 101 r = tab101.getD r [] := rfl
@[simp] theorem c_pure101 : cf.pure 101 = true := rfl
@[simp] theorem c_pack101 : cf.pack 101 = .whole := rfl
@[simp] theorem c_wary101 (r : Nat) : cf.wary 101 r = false := rfl
@[simp] theorem c_clone101 : cf.clone 101 = none := rfl
@[simp] theorem k_out101 : kn.out 101 = .frz [] := rfl
@[simp] theorem k_args101 : kn.args 101 = [[none, some (.i .i64), none, none, some (.i .i64)], [none, some (.i .i64), none, none, some (.i .i64)]] := rfl
@[simp] theorem k_nils101 : kn.nils 101 = fun _ => none := rfl
@[simp] theorem k_gc101 : kn.gc 101 = true := rfl
@[simp] theorem k_ali101 : kn.ali 101 = false := rfl
/-! 102: spec.l2norm -/
@[simp] theorem c_keep102 (r : Nat) : cf.keep 102 r = tab102.getD r [] := rfl
@[simp] theorem c_pure102 : cf.pure 102 = true := rfl
@[simp] theorem c_pack102 : cf.pack 102 = .whole := rfl
@[simp] theorem c_wary102 (r : Nat) : cf.wary 102 r = false := rfl
@[simp] theorem c_clone102 : cf.clone 102 = none := rfl
@[simp] theorem k_out102 : kn.out 102 = .own [[some (.i .i64)]] := rfl
@[simp] theorem k_args102 : kn.args 102 = [[some (.i .i64)]] := rfl
@[simp] theorem k_nils102 : kn.nils 102 = fun _ => none := rfl
@[simp] theorem k_gc102 : kn.gc 102 = true := rfl
@[simp] theorem k_ali102 : kn.ali 102 = false := rfl
/-! 103: impl.trailOf -/
@[simp] theorem c_keep103 (r : Nat) : cf.keep 103 r = tab103.getD r [] := rfl
@[simp] theorem c_pure103 : cf.pure 103 = true := rfl
@[simp] theorem c_pack103 : cf.pack 103 = .whole := rfl
@[simp] theorem c_wary103 (r : Nat) : cf.wary 103 r = false := rfl
@[simp] theorem c_clone103 : cf.clone 103 = none := rfl
@[simp] theorem k_out103 : kn.out 103 = .frz [] := rfl
@[simp] theorem k_args103 : kn.args 103 = [[some (.i .i64)]] := rfl
@[simp] theorem k_nils103 : kn.nils 103 = fun _ => none := rfl
@[simp] theorem k_gc103 : kn.gc 103 = true := rfl
@[simp] theorem k_ali103 : kn.ali 103 = false := rfl
/-! 104: impl.down -/
@[simp] theorem c_keep104 (r : Nat) : cf.keep 104 r = tab104.getD r [] := rfl
@[simp] theorem c_pure104 : cf.pure 104 = true := rfl
@[simp] theorem c_pack104 : cf.pack 104 = .whole := rfl
@[simp] theorem c_wary104 (r : Nat) : cf.wary 104 r = false := rfl
@[simp] theorem c_clone104 : cf.clone 104 = none := rfl
@[simp] theorem k_out104 : kn.out 104 = .own [[some (.i .i64)]] := rfl
@[simp] theorem k_args104 : kn.args 104 = [[some (.i .i64)]] := rfl
@[simp] theorem k_nils104 : kn.nils 104 = nil104 := rfl
@[simp] theorem k_gc104 : kn.gc 104 = true := rfl
@[simp] theorem k_ali104 : kn.ali 104 = false := rfl
/-! 105: impl.natOf -/
@[simp] theorem c_keep105 (r : Nat) : cf.keep 105 r = tab105.getD r [] := rfl
@[simp] theorem c_pure105 : cf.pure 105 = true := rfl
@[simp] theorem c_pack105 : cf.pack 105 = .whole := rfl
@[simp] theorem c_wary105 (r : Nat) : cf.wary 105 r = false := rfl
@[simp] theorem c_clone105 : cf.clone 105 = none := rfl
@[simp] theorem k_out105 : kn.out 105 = .own [[some (.i .i64)]] := rfl
@[simp] theorem k_args105 : kn.args 105 = [[some (.i .i64)]] := rfl
@[simp] theorem k_nils105 : kn.nils 105 = fun _ => none := rfl
@[simp] theorem k_gc105 : kn.gc 105 = true := rfl
@[simp] theorem k_ali105 : kn.ali 105 = false := rfl
/-! 106: laws.eqIntS -/
@[simp] theorem c_keep106 (r : Nat) : cf.keep 106 r = tab106.getD r [] := rfl
@[simp] theorem c_pure106 : cf.pure 106 = true := rfl
@[simp] theorem c_pack106 : cf.pack 106 = .whole := rfl
@[simp] theorem c_wary106 (r : Nat) : cf.wary 106 r = false := rfl
@[simp] theorem c_clone106 : cf.clone 106 = none := rfl
@[simp] theorem k_out106 : kn.out 106 = .frz [] := rfl
@[simp] theorem k_args106 : kn.args 106 = [[some (.i .i64)], [some (.i .i64)]] := rfl
@[simp] theorem k_nils106 : kn.nils 106 = fun _ => none := rfl
@[simp] theorem k_gc106 : kn.gc 106 = true := rfl
@[simp] theorem k_ali106 : kn.ali 106 = false := rfl
/-! 107: spec.l2trail -/
@[simp] theorem c_keep107 (r : Nat) : cf.keep 107 r = tab107.getD r [] := rfl
@[simp] theorem c_pure107 : cf.pure 107 = true := rfl
@[simp] theorem c_pack107 : cf.pack 107 = .whole := rfl
@[simp] theorem c_wary107 (r : Nat) : cf.wary 107 r = false := rfl
@[simp] theorem c_clone107 : cf.clone 107 = none := rfl
@[simp] theorem k_out107 : kn.out 107 = .frz [] := rfl
@[simp] theorem k_args107 : kn.args 107 = [[some (.i .i64)]] := rfl
@[simp] theorem k_nils107 : kn.nils 107 = fun _ => none := rfl
@[simp] theorem k_gc107 : kn.gc 107 = true := rfl
@[simp] theorem k_ali107 : kn.ali 107 = false := rfl
/-! 108: spec.l2shr -/
@[simp] theorem c_keep108 (r : Nat) : cf.keep 108 r = tab108.getD r [] := rfl
@[simp] theorem c_pure108 : cf.pure 108 = true := rfl
@[simp] theorem c_pack108 : cf.pack 108 = .whole := rfl
@[simp] theorem c_wary108 (r : Nat) : cf.wary 108 r = false := rfl
@[simp] theorem c_clone108 : cf.clone 108 = none := rfl
@[simp] theorem k_out108 : kn.out 108 = .frz [[some (.i .i64)]] := rfl
@[simp] theorem k_args108 : kn.args 108 = [[some (.i .i64)]] := rfl
@[simp] theorem k_nils108 : kn.nils 108 = fun _ => none := rfl
@[simp] theorem k_gc108 : kn.gc 108 = true := rfl
@[simp] theorem k_ali108 : kn.ali 108 = false := rfl
/-! 109: spec.l2add -/
@[simp] theorem c_keep109 (r : Nat) : cf.keep 109 r = tab109.getD r [] := rfl
@[simp] theorem c_pure109 : cf.pure 109 = true := rfl
@[simp] theorem c_pack109 : cf.pack 109 = .whole := rfl
@[simp] theorem c_wary109 (r : Nat) : cf.wary 109 r = false := rfl
@[simp] theorem c_clone109 : cf.clone 109 = none := rfl
@[simp] theorem k_out109 : kn.out 109 = .frz [[some (.i .i64)]] := rfl
@[simp] theorem k_args109 : kn.args 109 = [[some (.i .i64)], [some (.i .i64)]] := rfl
@[simp] theorem k_nils109 : kn.nils 109 = nil109 := rfl
@[simp] theorem k_gc109 : kn.gc 109 = true := rfl
@[simp] theorem k_ali109 : kn.ali 109 = false := rfl
/-! 110: spec.l2of -/
@[simp] theorem c_keep110 (r : Nat) : cf.keep 110 r = tab110.getD r [] := rfl
@[simp] theorem c_pure110 : cf.pure 110 = true := rfl
@[simp] theorem c_pack110 : cf.pack 110 = .whole := rfl
@[simp] theorem c_wary110 (r : Nat) : cf.wary 110 r = false := rfl
@[simp] theorem c_clone110 : cf.clone 110 = none := rfl
@[simp] theorem k_out110 : kn.out 110 = .own [[some (.i .i64)]] := rfl
@[simp] theorem k_args110 : kn.args 110 = [] := rfl
@[simp] theorem k_nils110 : kn.nils 110 = nil110 := rfl
@[simp] theorem k_gc110 : kn.gc 110 = true := rfl
@[simp] theorem k_ali110 : kn.ali 110 = false := rfl
/-! 111: impl.small -/
@[simp] theorem c_keep111 (r : Nat) : cf.keep 111 r = tab111.getD r [] := rfl
@[simp] theorem c_pure111 : cf.pure 111 = true := rfl
@[simp] theorem c_pack111 : cf.pack 111 = .whole := rfl
@[simp] theorem c_wary111 (r : Nat) : cf.wary 111 r = false := rfl
@[simp] theorem c_clone111 : cf.clone 111 = none := rfl
@[simp] theorem k_out111 : kn.out 111 = .own [[some (.i .i64)]] := rfl
@[simp] theorem k_args111 : kn.args 111 = [] := rfl
@[simp] theorem k_nils111 : kn.nils 111 = nil111 := rfl
@[simp] theorem k_gc111 : kn.gc 111 = true := rfl
@[simp] theorem k_ali111 : kn.ali 111 = false := rfl
/-! 112: impl.areAll[impl.Dy] -/
@[simp] theorem c_keep112 (r : Nat) : cf.keep 112 r = tab112.getD r [] := rfl
@[simp] theorem c_pure112 : cf.pure 112 = true := rfl
@[simp] theorem c_pack112 : cf.pack 112 = .whole := rfl
@[simp] theorem c_wary112 (r : Nat) : cf.wary 112 r = false := rfl
@[simp] theorem c_clone112 : cf.clone 112 = none := rfl
@[simp] theorem k_out112 : kn.out 112 = .frz [] := rfl
@[simp] theorem k_args112 : kn.args 112 = [[some (.s 3)]] := rfl
@[simp] theorem k_nils112 : kn.nils 112 = fun _ => none := rfl
@[simp] theorem k_gc112 : kn.gc 112 = true := rfl
@[simp] theorem k_ali112 : kn.ali 112 = false := rfl
/-! 113: laws.szIntS -/
@[simp] theorem c_keep113 (r : Nat) : cf.keep 113 r = tab113.getD r [] := rfl
@[simp] theorem c_pure113 : cf.pure 113 = true := rfl
@[simp] theorem c_pack113 : cf.pack 113 = .whole := rfl
@[simp] theorem c_wary113 (r : Nat) : cf.wary 113 r = false := rfl
@[simp] theorem c_clone113 : cf.clone 113 = none := rfl
@[simp] theorem k_out113 : kn.out 113 = .frz [] := rfl
@[simp] theorem k_args113 : kn.args 113 = [[some (.i .i64)]] := rfl
@[simp] theorem k_nils113 : kn.nils 113 = fun _ => none := rfl
@[simp] theorem k_gc113 : kn.gc 113 = true := rfl
@[simp] theorem k_ali113 : kn.ali 113 = false := rfl
/-! 114: spec.NatOk -/
@[simp] theorem c_keep114 (r : Nat) : cf.keep 114 r = tab114.getD r [] := rfl
@[simp] theorem c_pure114 : cf.pure 114 = true := rfl
@[simp] theorem c_pack114 : cf.pack 114 = .whole := rfl
@[simp] theorem c_wary114 (r : Nat) : cf.wary 114 r = false := rfl
@[simp] theorem c_clone114 : cf.clone 114 = none := rfl
@[simp] theorem k_out114 : kn.out 114 = .frz [] := rfl
@[simp] theorem k_args114 : kn.args 114 = [[some (.i .i64)]] := rfl
@[simp] theorem k_nils114 : kn.nils 114 = fun _ => none := rfl
@[simp] theorem k_gc114 : kn.gc 114 = true := rfl
@[simp] theorem k_ali114 : kn.ali 114 = false := rfl
/-! 115: spec.l3mul -/
@[simp] theorem c_keep115 (r : Nat) : cf.keep 115 r = tab115.getD r [] := rfl
@[simp] theorem c_pure115 : cf.pure 115 = true := rfl
@[simp] theorem c_pack115 : cf.pack 115 = .whole := rfl
@[simp] theorem c_wary115 (r : Nat) : cf.wary 115 r = false := rfl
@[simp] theorem c_clone115 : cf.clone 115 = none := rfl
@[simp] theorem k_out115 : kn.out 115 = .frz [[none, some (.i .i64)]] := rfl
@[simp] theorem k_args115 : kn.args 115 = [[none, some (.i .i64)], [none, some (.i .i64)]] := rfl
@[simp] theorem k_nils115 : kn.nils 115 = fun _ => none := rfl
@[simp] theorem k_gc115 : kn.gc 115 = true := rfl
@[simp] theorem k_ali115 : kn.ali 115 = false := rfl
/-! 116: laws.toIntS -/
@[simp] theorem c_keep116 (r : Nat) : cf.keep 116 r = tab116.getD r [] := rfl
@[simp] theorem c_pure116 : cf.pure 116 = true := rfl
@[simp] theorem c_pack116 : cf.pack 116 = .whole := rfl
@[simp] theorem c_wary116 (r : Nat) : cf.wary 116 r = false := rfl
@[simp] theorem c_clone116 : cf.clone 116 = none := rfl
@[simp] theorem k_out116 : kn.out 116 = .own [[some (.i .i64)]] := rfl
@[simp] theorem k_args116 : kn.args 116 = [[some (.i .i64)]] := rfl
@[simp] theorem k_nils116 : kn.nils 116 = nil116 := rfl
@[simp] theorem k_gc116 : kn.gc 116 = true := rfl
@[simp] theorem k_ali116 : kn.ali 116 = false := rfl
/-! 117: impl.NatOk -/
@[simp] theorem c_keep117 (r : Nat) : cf.keep 117 r = tab117.getD r [] := rfl
@[simp] theorem c_pure117 : cf.pure 117 = true := rfl
@[simp] theorem c_pack117 : cf.pack 117 = .whole := rfl
@[simp] theorem c_wary117 (r : Nat) : cf.wary 117 r = false := rfl
@[simp] theorem c_clone117 : cf.clone 117 = none := rfl
@[simp] theorem k_out117 : kn.out 117 = .frz [] := rfl
@[simp] theorem k_args117 : kn.args 117 = [[some (.i .i64)]] := rfl
@[simp] theorem k_nils117 : kn.nils 117 = fun _ => none := rfl
@[simp] theorem k_gc117 : kn.gc 117 = true := rfl
@[simp] theorem k_ali117 : kn.ali 117 = false := rfl
/-! 118: impl.times -/
@[simp] theorem c_keep118 (r : Nat) : cf.keep 118 r = tab118.getD r [] := rfl
@[simp] theorem c_pure118 : cf.pure 118 = true := rfl
@[simp] theorem c_pack118 : cf.pack 118 = .whole := rfl
@[simp] theorem c_wary118 (r : Nat) : cf.wary 118 r = false := rfl
@[simp] theorem c_clone118 : cf.clone 118 = none := rfl
@[simp] theorem k_out118 : kn.out 118 = .own [[some (.i .i64)]] := rfl
@[simp] theorem k_args118 : kn.args 118 = [[some (.i .i64)], [some (.i .i64)]] := rfl
@[simp] theorem k_nils118 : kn.nils 118 = nil118 := rfl
@[simp] theorem k_gc118 : kn.gc 118 = true := rfl
@[simp] theorem k_ali118 : kn.ali 118 = false := rfl
/-! 119: spec.IvOk -/
@[simp] theorem c_keep119 (r : Nat) : cf.keep 119 r = tab119.getD r [] := rfl
@[simp] theorem c_pure119 : cf.pure 119 = true := rfl
@[simp] theorem c_pack119 : cf.pack 119 = .whole := rfl
@[simp] theorem c_wary119 (r : Nat) : cf.wary 119 r = false := rfl
@[simp] theorem c_clone119 : cf.clone 119 = none := rfl
@[simp] theorem k_out119 : kn.out 119 = .frz [] := rfl
@[simp] theorem k_args119 : kn.args 119 = [[none, some (.i .i64), none, none, some (.i .i64)]] := rfl
@[simp] theorem k_nils119 : kn.nils 119 = fun _ => none := rfl
@[simp] theorem k_gc119 : kn.gc 119 = true := rfl
@[simp] theorem k_ali119 : kn.ali 119 = false := rfl
/-! 120: math/bits.TrailingZeros -/
@[simp] theorem c_keep120 (r : Nat) : cf.keep 120 r = tab120.getD r [] := rfl
@[simp] theorem c_pure120 : cf.pure 120 = true := rfl
@[simp] theorem c_pack120 : cf.pack 120 = .whole := rfl
@[simp] theorem c_wary120 (r : Nat) : cf.wary 120 r = false := rfl
@[simp] theorem c_clone120 : cf.clone 120 = none := rfl
@[simp] theorem k_out120 : kn.out 120 = .frz [] := rfl
@[simp] theorem k_args120 : kn.args 120 = [] := rfl
@[simp] theorem k_nils120 : kn.nils 120 = fun _ => none := rfl
@[simp] theorem k_gc120 : kn.gc 120 = true := rfl
@[simp] theorem k_ali120 : kn.ali 120 = false := rfl
/-! 121: impl.trim -/
@[simp] theorem c_keep121 (r : Nat) : cf.keep 121 r = tab121.getD r [] := rfl
@[simp] theorem c_pure121 : cf.pure 121 = true := rfl
@[simp] theorem c_pack121 : cf.pack 121 = .whole := rfl
@[simp] theorem c_wary121 (r : Nat) : cf.wary 121 r = false := rfl
@[simp] theorem c_clone121 : cf.clone 121 = none := rfl
@[simp] theorem k_out121 : kn.out 121 = .inl := rfl
@[simp] theorem k_args121 : kn.args 121 = [[some (.i .i64)]] := rfl
@[simp] theorem k_nils121 : kn.nils 121 = nil121 := rfl
@[simp] theorem k_gc121 : kn.gc 121 = false := rfl
@[simp] theorem k_ali121 : kn.ali 121 = true := rfl
/-! 122: slices.Clone[[]int,int] -/
@[simp] theorem c_keep122 (r : Nat) : cf.keep 122 r = tab122.getD r [] := rfl
@[simp] theorem c_pure122 : cf.pure 122 = true := rfl
@[simp] theorem c_pack122 : cf.pack 122 = .pack [.i64] := rfl
@[simp] theorem c_wary122 (r : Nat) : cf.wary 122 r = false := rfl
@[simp] theorem c_clone122 : cf.clone 122 = some .i64 := rfl
@[simp] theorem k_out122 : kn.out 122 = .own [[some (.i .i64)]] := rfl
@[simp] theorem k_args122 : kn.args 122 = [[some (.i .i64)]] := rfl
@[simp] theorem k_nils122 : kn.nils 122 = nil122 := rfl
@[simp] theorem k_gc122 : kn.gc 122 = true := rfl
@[simp] theorem k_ali122 : kn.ali 122 = false := rfl
/-! 123: spec.l2small -/
@[simp] theorem c_keep123 (r : Nat) : cf.keep 123 r = tab123.getD r [] := rfl
@[simp] theorem c_pure123 : cf.pure 123 = true := rfl
@[simp] theorem c_pack123 : cf.pack 123 = .whole := rfl
@[simp] theorem c_wary123 (r : Nat) : cf.wary 123 r = false := rfl
@[simp] theorem c_clone123 : cf.clone 123 = none := rfl
@[simp] theorem k_out123 : kn.out 123 = .frz [[some (.i .i64)]] := rfl
@[simp] theorem k_args123 : kn.args 123 = [[some (.i .i64)]] := rfl
@[simp] theorem k_nils123 : kn.nils 123 = fun _ => none := rfl
@[simp] theorem k_gc123 : kn.gc 123 = true := rfl
@[simp] theorem k_ali123 : kn.ali 123 = false := rfl
/-! 124: slices.ContainsFunc[[]impl.Dy,impl.Dy] -/
@[simp] theorem c_keep124 (r : Nat) : cf.keep 124 r = tab124.getD r [] := rfl
@[simp] theorem c_pure124 : cf.pure 124 = true := rfl
@[simp] theorem c_pack124 : cf.pack 124 = .whole := rfl
@[simp] theorem c_wary124 (r : Nat) : cf.wary 124 r = false := rfl
@[simp] theorem c_clone124 : cf.clone 124 = none := rfl
@[simp] theorem k_out124 : kn.out 124 = .frz [] := rfl
@[simp] theorem k_args124 : kn.args 124 = [[some (.s 3)]] := rfl
@[simp] theorem k_nils124 : kn.nils 124 = fun _ => none := rfl
@[simp] theorem k_gc124 : kn.gc 124 = true := rfl
@[simp] theorem k_ali124 : kn.ali 124 = false := rfl
/-! 125: impl.areAll[impl.Dy]$1 -/
@[simp] theorem c_keep125 (r : Nat) : cf.keep 125 r = tab125.getD r [] := rfl
@[simp] theorem c_pure125 : cf.pure 125 = true := rfl
@[simp] theorem c_pack125 : cf.pack 125 = .whole := rfl
@[simp] theorem c_wary125 (r : Nat) : cf.wary 125 r = false := rfl
@[simp] theorem c_clone125 : cf.clone 125 = none := rfl
@[simp] theorem k_out125 : kn.out 125 = .frz [] := rfl
@[simp] theorem k_args125 : kn.args 125 = [[none, some (.i .i64)]] := rfl
@[simp] theorem k_nils125 : kn.nils 125 = fun _ => none := rfl
@[simp] theorem k_gc125 : kn.gc 125 = true := rfl
@[simp] theorem k_ali125 : kn.ali 125 = false := rfl
/-! 126: spec.l2mul -/
@[simp] theorem c_keep126 (r : Nat) : cf.keep 126 r = tab126.getD r [] := rfl
@[simp] theorem c_pure126 : cf.pure 126 = true := rfl
@[simp] theorem c_pack126 : cf.pack 126 = .whole := rfl
@[simp] theorem c_wary126 (r : Nat) : cf.wary 126 r = false := rfl
@[simp] theorem c_clone126 : cf.clone 126 = none := rfl
@[simp] theorem k_out126 : kn.out 126 = .frz [[some (.i .i64)]] := rfl
@[simp] theorem k_args126 : kn.args 126 = [[some (.i .i64)], [some (.i .i64)]] := rfl
@[simp] theorem k_nils126 : kn.nils 126 = fun _ => none := rfl
@[simp] theorem k_gc126 : kn.gc 126 = true := rfl
@[simp] theorem k_ali126 : kn.ali 126 = false := rfl
/-! 127: impl.areAll[int] -/
@[simp] theorem c_keep127 (r : Nat) : cf.keep 127 r = tab127.getD r [] := rfl
@[simp] theorem c_pure127 : cf.pure 127 = true := rfl
@[simp] theorem c_pack127 : cf.pack 127 = .whole := rfl
@[simp] theorem c_wary127 (r : Nat) : cf.wary 127 r = false := rfl
@[simp] theorem c_clone127 : cf.clone 127 = none := rfl
@[simp] theorem k_out127 : kn.out 127 = .frz [] := rfl
@[simp] theorem k_args127 : kn.args 127 = [[some (.i .i64)]] := rfl
@[simp] theorem k_nils127 : kn.nils 127 = fun _ => none := rfl
@[simp] theorem k_gc127 : kn.gc 127 = true := rfl
@[simp] theorem k_ali127 : kn.ali 127 = false := rfl
/-! 128: impl.NatOk$1 -/
@[simp] theorem c_keep128 (r : Nat) : cf.keep 128 r = tab128.getD r [] := rfl
@[simp] theorem c_pure128 : cf.pure 128 = true := rfl
@[simp] theorem c_pack128 : cf.pack 128 = .whole := rfl
@[simp] theorem c_wary128 (r : Nat) : cf.wary 128 r = false := rfl
@[simp] theorem c_clone128 : cf.clone 128 = none := rfl
@[simp] theorem k_out128 : kn.out 128 = .frz [] := rfl
@[simp] theorem k_args128 : kn.args 128 = [] := rfl
@[simp] theorem k_nils128 : kn.nils 128 = fun _ => none := rfl
@[simp] theorem k_gc128 : kn.gc 128 = true := rfl
@[simp] theorem k_ali128 : kn.ali 128 = false := rfl
/-! 129: spec.l4cmp -/
@[simp] theorem c_keep129 (r : Nat) : cf.keep 129 r = tab129.getD r [] := rfl
@[simp] theorem c_pure129 : cf.pure 129 = true := rfl
@[simp] theorem c_pack129 : cf.pack 129 = .whole := rfl
@[simp] theorem c_wary129 (r : Nat) : cf.wary 129 r = false := rfl
@[simp] theorem c_clone129 : cf.clone 129 = none := rfl
@[simp] theorem k_out129 : kn.out 129 = .frz [] := rfl
@[simp] theorem k_args129 : kn.args 129 = [[none, some (.i .i64)], [none, some (.i .i64)]] := rfl
@[simp] theorem k_nils129 : kn.nils 129 = fun _ => none := rfl
@[simp] theorem k_gc129 : kn.gc 129 = true := rfl
@[simp] theorem k_ali129 : kn.ali 129 = false := rfl
/-! 130: math/bits.TrailingZeros32 -/
@[simp] theorem c_keep130 (r : Nat) : cf.keep 130 r = tab130.getD r [] := rfl
@[simp] theorem c_pure130 : cf.pure 130 = true := rfl
@[simp] theorem c_pack130 : cf.pack 130 = .whole := rfl
@[simp] theorem c_wary130 (r : Nat) : cf.wary 130 r = false := rfl
@[simp] theorem c_clone130 : cf.clone 130 = none := rfl
@[simp] theorem k_out130 : kn.out 130 = .frz [] := rfl
@[simp] theorem k_args130 : kn.args 130 = [] := rfl
@[simp] theorem k_nils130 : kn.nils 130 = fun _ => none := rfl
@[simp] theorem k_gc130 : kn.gc 130 = true := rfl
@[simp] theorem k_ali130 : kn.ali 130 = false := rfl
/-! 131: math/bits.TrailingZeros64 -/
@[simp] theorem c_keep131 (r : Nat) : cf.keep 131 r = tab131.getD r [] := rfl
@[simp] theorem c_pure131 : cf.pure 131 = true := rfl
@[simp] theorem c_pack131 : cf.pack 131 = .whole := rfl
@[simp] theorem c_wary131 (r : Nat) : cf.wary 131 r = false := rfl
@[simp] theorem c_clone131 : cf.clone 131 = none := rfl
@[simp] theorem k_out131 : kn.out 131 = .frz [] := rfl
@[simp] theorem k_args131 : kn.args 131 = [] := rfl
@[simp] theorem k_nils131 : kn.nils 131 = fun _ => none := rfl
@[simp] theorem k_gc131 : kn.gc 131 = true := rfl
@[simp] theorem k_ali131 : kn.ali 131 = false := rfl
/-! 132: slices.IndexFunc[[]impl.Dy,impl.Dy] -/
@[simp] theorem c_keep132 (r : Nat) : cf.keep 132 r = tab132.getD r [] := rfl
@[simp] theorem c_pure132 : cf.pure 132 = true := rfl
@[simp] theorem c_pack132 : cf.pack 132 = .whole := rfl
@[simp] theorem c_wary132 (r : Nat) : cf.wary 132 r = false := rfl
@[simp] theorem c_clone132 : cf.clone 132 = none := rfl
@[simp] theorem k_out132 : kn.out 132 = .frz [] := rfl
@[simp] theorem k_args132 : kn.args 132 = [[some (.s 3)]] := rfl
@[simp] theorem k_nils132 : kn.nils 132 = fun _ => none := rfl
@[simp] theorem k_gc132 : kn.gc 132 = true := rfl
@[simp] theorem k_ali132 : kn.ali 132 = false := rfl
/-! 133: slices.ContainsFunc[[]int,int] -/
@[simp] theorem c_keep133 (r : Nat) : cf.keep 133 r = tab133.getD r [] := rfl
@[simp] theorem c_pure133 : cf.pure 133 = true := rfl
@[simp] theorem c_pack133 : cf.pack 133 = .whole := rfl
@[simp] theorem c_wary133 (r : Nat) : cf.wary 133 r = false := rfl
@[simp] theorem c_clone133 : cf.clone 133 = none := rfl
@[simp] theorem k_out133 : kn.out 133 = .frz [] := rfl
@[simp] theorem k_args133 : kn.args 133 = [[some (.i .i64)]] := rfl
@[simp] theorem k_nils133 : kn.nils 133 = fun _ => none := rfl
@[simp] theorem k_gc133 : kn.gc 133 = true := rfl
@[simp] theorem k_ali133 : kn.ali 133 = false := rfl
/-! 134: impl.areAll[int]$1 -/
@[simp] theorem c_keep134 (r : Nat) : cf.keep 134 r = tab134.getD r [] := rfl
@[simp] theorem c_pure134 : cf.pure 134 = true := rfl
@[simp] theorem c_pack134 : cf.pack 134 = .whole := rfl
@[simp] theorem c_wary134 (r : Nat) : cf.wary 134 r = false := rfl
@[simp] theorem c_clone134 : cf.clone 134 = none := rfl
@[simp] theorem k_out134 : kn.out 134 = .frz [] := rfl
@[simp] theorem k_args134 : kn.args 134 = [] := rfl
@[simp] theorem k_nils134 : kn.nils 134 = fun _ => none := rfl
@[simp] theorem k_gc134 : kn.gc 134 = true := rfl
@[simp] theorem k_ali134 : kn.ali 134 = false := rfl
/-! 135: spec.l4align -/
@[simp] theorem c_keep135 (r : Nat) : cf.keep 135 r = tab135.getD r [] := rfl
@[simp] theorem c_pure135 : cf.pure 135 = true := rfl
@[simp] theorem c_pack135 : cf.pack 135 = .whole := rfl
@[simp] theorem c_wary135 (r : Nat) : cf.wary 135 r = (true) := rfl
@[simp] theorem c_clone135 : cf.clone 135 = none := rfl
@[simp] theorem k_out135 : kn.out 135 = .frz [[none, some (.i .i64)], [none, some (.i .i64)]] := rfl
@[simp] theorem k_args135 : kn.args 135 = [[none, some (.i .i64)], [none, some (.i .i64)]] := rfl
@[simp] theorem k_nils135 : kn.nils 135 = fun _ => none := rfl
@[simp] theorem k_gc135 : kn.gc 135 = true := rfl
@[simp] theorem k_ali135 : kn.ali 135 = false := rfl
/-! 136: spec.l3cmp -/
@[simp] theorem c_keep136 (r : Nat) : cf.keep 136 r = tab136.getD r [] := rfl
@[simp] theorem c_pure136 : cf.pure 136 = true := rfl
@[simp] theorem c_pack136 : cf.pack 136 = .whole := rfl
@[simp] theorem c_wary136 (r : Nat) : cf.wary 136 r = false := rfl
@[simp] theorem c_clone136 : cf.clone 136 = none := rfl
@[simp] theorem k_out136 : kn.out 136 = .frz [] := rfl
@[simp] theorem k_args136 : kn.args 136 = [[none, some (.i .i64)], [none, some (.i .i64)]] := rfl
@[simp] theorem k_nils136 : kn.nils 136 = fun _ => none := rfl
@[simp] theorem k_gc136 : kn.gc 136 = true := rfl
@[simp] theorem k_ali136 : kn.ali 136 = false := rfl
/-! 137: slices.IndexFunc[[]int,int] -/
@[simp] theorem c_keep137 (r : Nat) : cf.keep 137 r = tab137.getD r [] := rfl
@[simp] theorem c_pure137 : cf.pure 137 = true := rfl
@[simp] theorem c_pack137 : cf.pack 137 = .whole := rfl
@[simp] theorem c_wary137 (r : Nat) : cf.wary 137 r = false := rfl
@[simp] theorem c_clone137 : cf.clone 137 = none := rfl
@[simp] theorem k_out137 : kn.out 137 = .frz [] := rfl
@[simp] theorem k_args137 : kn.args 137 = [[some (.i .i64)]] := rfl
@[simp] theorem k_nils137 : kn.nils 137 = fun _ => none := rfl
@[simp] theorem k_gc137 : kn.gc 137 = true := rfl
@[simp] theorem k_ali137 : kn.ali 137 = false := rfl
/-! 138: spec.l2shl -/
@[simp] theorem c_keep138 (r : Nat) : cf.keep 138 r = tab138.getD r [] := rfl
@[simp] theorem c_pure138 : cf.pure 138 = true := rfl
@[simp] theorem c_pack138 : cf.pack 138 = .whole := rfl
@[simp] theorem c_wary138 (r : Nat) : cf.wary 138 r = false := rfl
@[simp] theorem c_clone138 : cf.clone 138 = none := rfl
@[simp] theorem k_out138 : kn.out 138 = .frz [[some (.i .i64)]] := rfl
@[simp] theorem k_args138 : kn.args 138 = [[some (.i .i64)]] := rfl
@[simp] theorem k_nils138 : kn.nils 138 = fun _ => none := rfl
@[simp] theorem k_gc138 : kn.gc 138 = true := rfl
@[simp] theorem k_ali138 : kn.ali 138 = false := rfl
/-! 139: spec.l2cmp -/
@[simp] theorem c_keep139 (r : Nat) : cf.keep 139 r = tab139.getD r [] := rfl
@[simp] theorem c_pure139 : cf.pure 139 = true := rfl
@[simp] theorem c_pack139 : cf.pack 139 = .whole := rfl
@[simp] theorem c_wary139 (r : Nat) : cf.wary 139 r = false := rfl
@[simp] theorem c_clone139 : cf.clone 139 = none := rfl
@[simp] theorem k_out139 : kn.out 139 = .frz [] := rfl
@[simp] theorem k_args139 : kn.args 139 = [[some (.i .i64)], [some (.i .i64)]] := rfl
@[simp] theorem k_nils139 : kn.nils 139 = fun _ => none := rfl
@[simp] theorem k_gc139 : kn.gc 139 = true := rfl
@[simp] theorem k_ali139 : kn.ali 139 = false := rfl
theorem kept0 : ((impL ++ aliL).all fun f => (match kn.out f with | .inl => true | _ => false) && !kn.gc f) = true := by kernel_rfl
theorem kept1 (f : FuncId) : (cf.pure f = true ∧ kn.ali f = false) ∨ (kn.out f = .inl ∧ kn.gc f = false) := by
  cases hb : (impL ++ aliL).contains f with
  | false =>
    have h1 : ¬ f ∈ impL ++ aliL := fun h => by rw [List.contains_iff_mem.2 h] at hb; simp at hb
    rw [List.mem_append] at h1
    refine .inl ⟨?_, ?_⟩
    · show (!impL.contains f) = true
      cases h2 : impL.contains f with
      | false => rfl
      | true => exact absurd (.inl (List.contains_iff_mem.1 h2)) h1
    · show aliL.contains f = false
      cases h2 : aliL.contains f with
      | false => rfl
      | true => exact absurd (.inr (List.contains_iff_mem.1 h2)) h1
  | true =>
    have h := List.all_eq_true.1 kept0 f (List.contains_iff_mem.1 hb)
    rw [Bool.and_eq_true] at h
    refine .inr ⟨?_, by simpa using h.2⟩
    cases ho : kn.out f with
    | inl => rfl
    | own ks => rw [ho] at h; simp at h
    | frz ks => rw [ho] at h; simp at h
theorem kept : Kept kn where
  gc f hg := (kept1 f).resolve_right fun h => by rw [h.2] at hg; simp at hg
  out f := (kept1 f).symm.imp (fun h ks e => by rw [h.1] at e; cases e) id
  own f := (kept1 f).symm.imp (fun h ks e => by rw [h.1] at e; cases e) id
/-- What the proof of the engine asks of a function. -/
def staticF (cf : Cfg) (f : FuncId) (m : PM) (fn : Func) : Bool := match m with
  | .no => true
  | _ => match fn.body with
    | some c => codeOk cf f fn.ntmps c && !(fn.name == "runtime.NumGoroutine")
    | none => true
theorem static_all : ((List.range Tryd.prog.funcs.size).all fun f => Tryd.prog.funcs[f]?.all (staticF cf f (cf.pack f))) = true := by kernel_rfl
theorem static : Static Tryd.prog cf := fun f fn c hf hb hno => by
  have h := List.all_eq_true.1 static_all f (List.mem_range.2 (Array.getElem?_eq_some_iff.1 hf).1)
  rw [hf] at h
  simp only [Option.all_some] at h
  unfold staticF at h
  split at h
  · rename_i e; exact absurd e hno
  · rw [hb] at h; simpa using h
@[simp] theorem c_rounds : cf.rounds = 4294967296 := rfl
end Go.Eng
