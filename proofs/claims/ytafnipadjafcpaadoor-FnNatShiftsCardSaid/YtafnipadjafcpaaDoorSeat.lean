/- The value engine: the tables of this seat: types, and of each function what its regions and its calls leave. Printed by a program of this session. No conditions. -/
import Derived.Test.YtafnipadjafcpaaDoorProg
import Derived.Test.YtafnipadjafcpaaDoorVb
import Derived.KernelRfl
set_option linter.unusedVariables false
set_option linter.unusedSimpArgs false
namespace Go.Eng
open Go.Proofs
set_option maxRecDepth 100000
@[simp] theorem ty_u_3 : Tryd.prog.underlying 3 = some (.int .i64) := by kernel_rfl
@[simp] theorem ty_k_3 : kindOf Tryd.prog 3 = some .i64 := by kernel_rfl
@[simp] theorem ty_a_3 : aggT Tryd.prog 3 = some false := by kernel_rfl
@[simp] theorem ty_s_3 : sizeT Tryd.prog 3 = some 1 := by kernel_rfl
@[simp] theorem ty_b_3 : bytesT Tryd.prog 3 = some 8 := by kernel_rfl
@[simp] theorem ty_z_3 : zeroT Tryd.prog 3 = some (.c (.int .i64 0)) := by kernel_rfl
@[simp] theorem ty_u_4 : Tryd.prog.underlying 4 = some (.bool) := by kernel_rfl
@[simp] theorem ty_k_4 : kindOf Tryd.prog 4 = none := by kernel_rfl
@[simp] theorem ty_a_4 : aggT Tryd.prog 4 = some false := by kernel_rfl
@[simp] theorem ty_s_4 : sizeT Tryd.prog 4 = some 1 := by kernel_rfl
@[simp] theorem ty_b_4 : bytesT Tryd.prog 4 = some 1 := by kernel_rfl
@[simp] theorem ty_z_4 : zeroT Tryd.prog 4 = some (.c (.bool false)) := by kernel_rfl
@[simp] theorem ty_u_5 : Tryd.prog.underlying 5 = some (.int .u8) := by kernel_rfl
@[simp] theorem ty_k_5 : kindOf Tryd.prog 5 = some .u8 := by kernel_rfl
@[simp] theorem ty_a_5 : aggT Tryd.prog 5 = some false := by kernel_rfl
@[simp] theorem ty_s_5 : sizeT Tryd.prog 5 = some 1 := by kernel_rfl
@[simp] theorem ty_b_5 : bytesT Tryd.prog 5 = some 1 := by kernel_rfl
@[simp] theorem ty_z_5 : zeroT Tryd.prog 5 = some (.c (.int .u8 0)) := by kernel_rfl
@[simp] theorem ty_u_9 : Tryd.prog.underlying 9 = some (.string) := by kernel_rfl
@[simp] theorem ty_k_9 : kindOf Tryd.prog 9 = none := by kernel_rfl
@[simp] theorem ty_a_9 : aggT Tryd.prog 9 = some false := by kernel_rfl
@[simp] theorem ty_s_9 : sizeT Tryd.prog 9 = some 1 := by kernel_rfl
@[simp] theorem ty_b_9 : bytesT Tryd.prog 9 = some 16 := by kernel_rfl
@[simp] theorem ty_z_9 : zeroT Tryd.prog 9 = some (.c (.str ⟨#[]⟩)) := by kernel_rfl
@[simp] theorem ty_u_22 : Tryd.prog.underlying 22 = some (.slice 5) := by kernel_rfl
@[simp] theorem ty_k_22 : kindOf Tryd.prog 22 = none := by kernel_rfl
@[simp] theorem ty_a_22 : aggT Tryd.prog 22 = some false := by kernel_rfl
@[simp] theorem ty_s_22 : sizeT Tryd.prog 22 = some 1 := by kernel_rfl
@[simp] theorem ty_b_22 : bytesT Tryd.prog 22 = some 24 := by kernel_rfl
@[simp] theorem ty_e_22 : elemS Tryd.prog 22 = some 5 := by kernel_rfl
@[simp] theorem ty_z_22 : zeroT Tryd.prog 22 = some (.c (.nil)) := by kernel_rfl
@[simp] theorem ty_u_23 : Tryd.prog.underlying 23 = some (.slice 3) := by kernel_rfl
@[simp] theorem ty_k_23 : kindOf Tryd.prog 23 = none := by kernel_rfl
@[simp] theorem ty_a_23 : aggT Tryd.prog 23 = some false := by kernel_rfl
@[simp] theorem ty_s_23 : sizeT Tryd.prog 23 = some 1 := by kernel_rfl
@[simp] theorem ty_b_23 : bytesT Tryd.prog 23 = some 24 := by kernel_rfl
@[simp] theorem ty_e_23 : elemS Tryd.prog 23 = some 3 := by kernel_rfl
@[simp] theorem ty_z_23 : zeroT Tryd.prog 23 = some (.c (.nil)) := by kernel_rfl
@[simp] theorem ty_k_25 : kindOf Tryd.prog 25 = none := by kernel_rfl
@[simp] theorem ty_a_25 : aggT Tryd.prog 25 = some true := by kernel_rfl
@[simp] theorem ty_s_25 : sizeT Tryd.prog 25 = some 1 := by kernel_rfl
@[simp] theorem ty_b_25 : bytesT Tryd.prog 25 = some 24 := by kernel_rfl
@[simp] theorem ty_z_25 : zeroT Tryd.prog 25 = some (.agg [.nil]) := by kernel_rfl
@[simp] theorem ty_f_25_0 : fieldOf Tryd.prog 25 0 = some (0, 1, false) := by kernel_rfl
@[simp] theorem ty_p_25 : placesB Tryd.prog 25 = some [(0, 1)] := by kernel_rfl
@[simp] theorem ty_u_40 : Tryd.prog.underlying 40 = some (.pointer 55) := by kernel_rfl
@[simp] theorem ty_k_40 : kindOf Tryd.prog 40 = none := by kernel_rfl
@[simp] theorem ty_a_40 : aggT Tryd.prog 40 = some false := by kernel_rfl
@[simp] theorem ty_s_40 : sizeT Tryd.prog 40 = some 1 := by kernel_rfl
@[simp] theorem ty_b_40 : bytesT Tryd.prog 40 = some 8 := by kernel_rfl
@[simp] theorem ty_k_55 : kindOf Tryd.prog 55 = none := by kernel_rfl
@[simp] theorem ty_a_55 : aggT Tryd.prog 55 = some true := by kernel_rfl
@[simp] theorem ty_s_55 : sizeT Tryd.prog 55 = some 3 := by kernel_rfl
@[simp] theorem ty_b_55 : bytesT Tryd.prog 55 = some 40 := by kernel_rfl
@[simp] theorem ty_z_55 : zeroT Tryd.prog 55 = some (.agg [.nil, .int .i64 0, .int .i64 0]) := by kernel_rfl
@[simp] theorem ty_f_55_0 : fieldOf Tryd.prog 55 0 = some (0, 1, false) := by kernel_rfl
@[simp] theorem ty_f_55_1 : fieldOf Tryd.prog 55 1 = some (1, 1, false) := by kernel_rfl
@[simp] theorem ty_f_55_2 : fieldOf Tryd.prog 55 2 = some (2, 1, false) := by kernel_rfl
@[simp] theorem ty_p_55 : placesB Tryd.prog 55 = some [(0, 1), (1, 1), (2, 1)] := by kernel_rfl
@[simp] theorem ty_k_59 : kindOf Tryd.prog 59 = none := by kernel_rfl
@[simp] theorem ty_a_59 : aggT Tryd.prog 59 = some false := by kernel_rfl
@[simp] theorem ty_s_59 : sizeT Tryd.prog 59 = some 1 := by kernel_rfl
@[simp] theorem ty_b_59 : bytesT Tryd.prog 59 = some 8 := by kernel_rfl
@[simp] theorem ty_u_62 : Tryd.prog.underlying 62 = some (.int .u64) := by kernel_rfl
@[simp] theorem ty_k_62 : kindOf Tryd.prog 62 = some .u64 := by kernel_rfl
@[simp] theorem ty_a_62 : aggT Tryd.prog 62 = some false := by kernel_rfl
@[simp] theorem ty_s_62 : sizeT Tryd.prog 62 = some 1 := by kernel_rfl
@[simp] theorem ty_b_62 : bytesT Tryd.prog 62 = some 8 := by kernel_rfl
@[simp] theorem ty_z_62 : zeroT Tryd.prog 62 = some (.c (.int .u64 0)) := by kernel_rfl
@[simp] theorem ty_u_72 : Tryd.prog.underlying 72 = some (.int .u32) := by kernel_rfl
@[simp] theorem ty_k_72 : kindOf Tryd.prog 72 = some .u32 := by kernel_rfl
@[simp] theorem ty_a_72 : aggT Tryd.prog 72 = some false := by kernel_rfl
@[simp] theorem ty_s_72 : sizeT Tryd.prog 72 = some 1 := by kernel_rfl
@[simp] theorem ty_b_72 : bytesT Tryd.prog 72 = some 4 := by kernel_rfl
@[simp] theorem ty_z_72 : zeroT Tryd.prog 72 = some (.c (.int .u32 0)) := by kernel_rfl
@[simp] theorem ty_u_74 : Tryd.prog.underlying 74 = some (.int .u64) := by kernel_rfl
@[simp] theorem ty_k_74 : kindOf Tryd.prog 74 = some .u64 := by kernel_rfl
@[simp] theorem ty_a_74 : aggT Tryd.prog 74 = some false := by kernel_rfl
@[simp] theorem ty_s_74 : sizeT Tryd.prog 74 = some 1 := by kernel_rfl
@[simp] theorem ty_b_74 : bytesT Tryd.prog 74 = some 8 := by kernel_rfl
@[simp] theorem ty_z_74 : zeroT Tryd.prog 74 = some (.c (.int .u64 0)) := by kernel_rfl
@[simp] theorem ty_u_77 : Tryd.prog.underlying 77 = some (.array 32 5) := by kernel_rfl
@[simp] theorem ty_k_77 : kindOf Tryd.prog 77 = none := by kernel_rfl
@[simp] theorem ty_a_77 : aggT Tryd.prog 77 = some true := by kernel_rfl
@[simp] theorem ty_s_77 : sizeT Tryd.prog 77 = some 32 := by kernel_rfl
@[simp] theorem ty_b_77 : bytesT Tryd.prog 77 = some 32 := by kernel_rfl
@[simp] theorem ty_z_77 : zeroT Tryd.prog 77 = some (.agg [.int .u8 0, .int .u8 0, .int .u8 0, .int .u8 0, .int .u8 0, .int .u8 0, .int .u8 0, .int .u8 0, .int .u8 0, .int .u8 0, .int .u8 0, .int .u8 0, .int .u8 0, .int .u8 0, .int .u8 0, .int .u8 0, .int .u8 0, .int .u8 0, .int .u8 0, .int .u8 0, .int .u8 0, .int .u8 0, .int .u8 0, .int .u8 0, .int .u8 0, .int .u8 0, .int .u8 0, .int .u8 0, .int .u8 0, .int .u8 0, .int .u8 0, .int .u8 0]) := by kernel_rfl
@[simp] theorem ty_u_78 : Tryd.prog.underlying 78 = some (.array 64 5) := by kernel_rfl
@[simp] theorem ty_k_78 : kindOf Tryd.prog 78 = none := by kernel_rfl
@[simp] theorem ty_a_78 : aggT Tryd.prog 78 = some true := by kernel_rfl
@[simp] theorem ty_s_78 : sizeT Tryd.prog 78 = some 64 := by kernel_rfl
@[simp] theorem ty_b_78 : bytesT Tryd.prog 78 = some 64 := by kernel_rfl
@[simp] theorem ty_z_78 : zeroT Tryd.prog 78 = some (.agg [.int .u8 0, .int .u8 0, .int .u8 0, .int .u8 0, .int .u8 0, .int .u8 0, .int .u8 0, .int .u8 0, .int .u8 0, .int .u8 0, .int .u8 0, .int .u8 0, .int .u8 0, .int .u8 0, .int .u8 0, .int .u8 0, .int .u8 0, .int .u8 0, .int .u8 0, .int .u8 0, .int .u8 0, .int .u8 0, .int .u8 0, .int .u8 0, .int .u8 0, .int .u8 0, .int .u8 0, .int .u8 0, .int .u8 0, .int .u8 0, .int .u8 0, .int .u8 0, .int .u8 0, .int .u8 0, .int .u8 0, .int .u8 0, .int .u8 0, .int .u8 0, .int .u8 0, .int .u8 0, .int .u8 0, .int .u8 0, .int .u8 0, .int .u8 0, .int .u8 0, .int .u8 0, .int .u8 0, .int .u8 0, .int .u8 0, .int .u8 0, .int .u8 0, .int .u8 0, .int .u8 0, .int .u8 0, .int .u8 0, .int .u8 0, .int .u8 0, .int .u8 0, .int .u8 0, .int .u8 0, .int .u8 0, .int .u8 0, .int .u8 0, .int .u8 0]) := by kernel_rfl
def tab3 : List (List Nat) := [[0], [3, 4], [3, 4, 5, 6], [3, 4, 5, 6, 36], [2], [3, 4, 5, 6, 7], [3, 4, 5, 6, 7, 8, 9], [3, 4, 5, 6, 7, 8, 60], [2], [3, 4, 5, 6, 7, 8, 10], [3, 4, 5, 6, 8, 73], [2], [3, 4, 5, 6, 13, 14], [3, 4, 5, 6, 99], [2], [2]]
def tab4 : List (List Nat) := [[0, 2], [2, 4], [2, 3]]
def tab5 : List (List Nat) := [[1, 2, 4], [1, 2, 4, 6], [4, 5], [1, 2, 4, 15], [4, 5], [1, 2, 4, 21], [4, 5], [4, 5]]
def tab6 : List (List Nat) := [[1], [1, 7], [2], [1, 3], [1, 3, 12], [1, 3], [1, 3, 28], [2], [2]]
def tab7 : List (List Nat) := [[1], [1, 5], [2], [2]]
def tab8 : List (List Nat) := [[0, 2], [2, 3], [2]]
def tab9 : List (List Nat) := [[1, 2, 4], [1, 2, 4, 11], [4], [4]]
def tab10 : List (List Nat) := [[1, 2, 4], [1, 2, 4, 14], [4, 5], [1, 2, 4, 23], [4, 5], [1, 2, 4, 6], [2, 4, 6, 30, 31], [2, 4, 6, 30, 31, 32], [2, 4, 6, 30, 31], [2, 4, 6, 30, 31, 39], [4, 5], [2, 4, 6, 30, 31], [4, 5]]
def tab11 : List (List Nat) := [[2, 3, 4, 5], [2, 3, 4, 5, 18], [4, 5, 6], [4, 5, 7, 8], [4, 5, 6]]
def tab12 : List (List Nat) := [[2, 3], [2, 3, 12], [4], [2, 3, 5], [2, 3, 5, 17], [2, 3, 5], [2, 3, 5, 30], [4], [4]]
def tab13 : List (List Nat) := [[2, 3, 4], [2, 3, 4, 9], [4, 5], [4, 5]]
def tab14 : List (List Nat) := [[1], [1, 5], [2], [2]]
def tab15 : List (List Nat) := [[1, 2], [1, 2, 7], [4], [4]]
def tab16 : List (List Nat) := [[0], [0, 3], [0, 3, 4], [0, 3, 4, 15], [0, 3, 4], [0, 3, 4], [2]]
def tab17 : List (List Nat) := [[0, 2], [0, 2, 3], [0, 2, 3, 8], [2], [2, 3, 11], [2, 3, 15], [2, 3], [2, 3, 11, 21], [2, 3], [2, 3, 11, 28], [2, 3], [2, 3, 35], [2, 3], [2]]
def tab18 : List (List Nat) := [[0, 1], [4]]
def tab19 : List (List Nat) := [[1], [2]]
def tab20 : List (List Nat) := [[0, 2], [0, 2, 6], [2, 3], [2, 3]]
def tab21 : List (List Nat) := [[0, 1], [0, 1, 11], [4], [0, 1, 5], [0, 1, 5, 6], [1, 5, 6, 21, 22, 23], [1, 5, 6, 21, 22, 23, 24], [1, 5, 6, 8, 21, 22, 23], [1, 5, 6, 21, 22, 23], [1, 5, 6, 21, 22, 23], [1, 5, 6, 21, 22, 23], [1, 5, 6, 21, 22, 23], [4]]
def tab22 : List (List Nat) := [[0], [0, 5], [2], [2]]
def tab23 : List (List Nat) := [[0, 2], [0, 2, 5], [2, 3], [2, 3]]
def tab24 : List (List Nat) := [[0, 1], [0, 1, 13], [4], [1, 5], [1, 5, 6], [1, 5, 6, 21, 22, 23], [1, 5, 6, 21, 22, 23, 24], [1, 5, 6, 7, 8, 21, 22, 23], [1, 5, 6, 7, 8, 21, 22, 23, 32], [1, 5, 6, 8, 21, 22, 23], [1, 5, 6, 21, 22, 23], [1, 5, 6, 21, 22, 23], [4]]
def tab25 : List (List Nat) := [[0, 1, 2], [6]]
def tab26 : List (List Nat) := [[0], [0, 3], [0, 3, 5], [0, 3], [0, 3], [2]]
def tab27 : List (List Nat) := [[0, 1], [0, 1, 5], [1, 5, 17, 18, 19], [1, 5, 17, 18, 19, 20], [1, 5, 6, 7, 17, 18, 19], [1, 5, 6, 7, 8, 17, 18, 19], [1, 5, 6, 7, 8, 17, 18, 19, 24, 25, 26], [1, 5, 6, 7, 8, 17, 18, 19, 24, 25, 26, 27], [1, 5, 6, 7, 8, 9, 10, 17, 18, 19, 24, 25, 26], [1, 5, 6, 7, 8, 9, 17, 18, 19, 24, 25, 26], [1, 5, 6, 7, 8, 17, 18, 19, 24, 25, 26], [1, 5, 6, 7, 8, 17, 18, 19, 24, 25, 26], [1, 5, 6, 7, 8, 17, 18, 19, 24, 25, 26], [1, 5, 17, 18, 19], [1, 5, 17, 18, 19], [4]]
def tab28 : List (List Nat) := [[2, 3], [4]]
def tab29 : List (List Nat) := [[0, 1], [0, 1, 17], [4, 5], [0, 1, 22], [6, 7], [4, 5], [0, 1, 8], [0, 1, 8, 9], [0, 1, 8, 9, 10], [0, 1, 8, 9, 10], [8, 9, 10, 11], [8, 9, 10, 11, 12], [8, 9, 10, 11, 12, 68], [8, 9, 10, 11, 12], [8, 9, 10, 11, 12, 13], [8, 9, 10, 11, 12, 13, 79], [8, 9, 10, 11, 12, 13], [8, 9, 10, 11, 12, 13], [8, 9, 10, 11, 12], [4, 5]]
def tab30 : List (List Nat) := [[0], [5, 6, 7], [5, 6, 7, 8], [3, 4, 5, 6, 7], [3, 4, 5, 6, 7, 13], [2], [5, 6, 7], [2]]
def tab31 : List (List Nat) := [[0, 1], [0, 1, 13], [4], [4]]
def tab32 : List (List Nat) := [[0, 2], [0, 2, 3], [0, 2, 3, 4], [0, 2, 3, 4, 5], [0, 2, 3, 4, 5, 10], [0, 2, 3, 4, 5], [0, 2, 3, 4, 5, 14], [0, 2, 3, 4, 5], [0, 2, 3, 4, 5, 14, 20], [0, 2, 3, 4, 5], [0, 2, 3, 4, 5, 25], [0, 2, 3, 4, 5], [0, 2, 3, 31], [2], [2]]
def tab33 : List (List Nat) := [[0, 1], [4]]
def tab34 : List (List Nat) := [[0, 1], [0, 1, 10], [4], [0, 1, 12], [4], [0, 1, 5], [0, 1, 5, 6], [0, 1, 5, 6, 7], [1, 5, 6, 7, 8], [4]]
def tab35 : List (List Nat) := [[0, 3], [4]]
def tab36 : List (List Nat) := [[0], [2]]
def tab37 : List (List Nat) := [[0], [0, 4], [2], [2]]
def tab38 : List (List Nat) := [[0], [0, 14], [0], [2]]
def tab39 : List (List Nat) := [[0], [2], [2]]
def tab40 : List (List Nat) := [[0, 2], [0, 2, 3], [0, 2, 3, 5], [0, 2, 3], [0, 2, 3], [2]]
def tab41 : List (List Nat) := [[0, 1], [0, 1, 10], [4], [0, 1, 5], [0, 1, 5, 20], [0, 1, 5], [0, 1, 5, 31], [4], [4]]
def tab42 : List (List Nat) := [[0, 1], [0, 1, 6], [0, 1, 6, 7], [0, 1, 6, 7, 8], [0, 1, 6, 7, 8, 16], [0, 1, 6, 7, 8], [0, 1, 6, 7, 8], [0, 1, 6, 7, 8], [0, 1, 6, 7, 8], [4, 5]]
def tab43 : List (List Nat) := [[0, 1, 2], [0, 1, 2, 7], [0, 1, 2, 7, 8], [0, 1, 2, 7, 9, 10], [0, 1, 2, 7, 9, 10, 63], [0, 1, 2, 7, 9, 10], [0, 1, 2, 7, 9, 10], [0, 1, 2, 7, 9, 10, 74], [6]]
def tab44 : List (List Nat) := [[0, 1, 2, 3], [0, 1, 2, 3, 9], [0, 1, 2, 3, 9, 13, 14, 15], [0, 1, 2, 3, 9, 13, 14, 15, 16], [0, 1, 2, 3, 9, 10, 11, 13, 14, 15], [0, 1, 2, 3, 10, 12, 13, 14, 15], [0, 1, 2, 3, 9, 10, 12, 13, 14, 15], [0, 1, 2, 3, 9, 10, 12, 13, 14, 15, 33], [0, 1, 2, 3, 9, 10, 12, 13, 14, 15], [0, 1, 2, 3, 9, 10, 12, 13, 14, 15], [0, 1, 2, 3, 9, 13, 14, 15], [0, 1, 2, 3, 9, 13, 14, 15], [0, 1, 2], [8]]
def tab45 : List (List Nat) := [[0, 1, 2, 6], [0, 1, 2, 6, 9, 10, 11], [0, 1, 2, 6, 9, 10, 11, 12], [0, 1, 2, 6, 7, 8, 9, 10, 11], [0, 1, 2, 6, 7, 9, 10, 11], [0, 1, 2, 6, 9, 10, 11], [0, 1, 2, 6, 9, 10, 11], [0, 1, 2, 6, 9, 10, 11], []]
def tab46 : List (List Nat) := [[0], [2], [2]]
def tab47 : List (List Nat) := [[0], [0, 4], [2], [2]]
def tab48 : List (List Nat) := [[0, 2], [0, 2, 3], [0, 2, 3, 15], [0, 2, 3], [2]]
def tab49 : List (List Nat) := [[0], [0], [0, 3], [0, 3, 34], [0, 3], [3], [2]]
def tab50 : List (List Nat) := [[0, 1], [4]]
def tab51 : List (List Nat) := [[0, 1], [3]]
def tab52 : List (List Nat) := [[0, 2], [0, 2, 4], [0], [0, 2], [0, 2, 8], [0, 2], [0, 2], [2]]
def tab53 : List (List Nat) := [[0, 2], [0, 2, 4], [0], [0, 2], [0, 2, 8], [0, 2], [0, 2], [0, 2, 14], [0, 2], [0, 2], [2]]
def tab54 : List (List Nat) := [[0, 1], [0, 1, 5], [0, 1, 5, 6], [0, 1, 6, 11], [12], [4], [4], [0, 1, 13], [4], [0, 1, 16], [4], [19], [4], [4]]
def tab55 : List (List Nat) := [[0], [0, 4], [2], [2]]
def tab56 : List (List Nat) := [[0], [0, 4], [2], [2]]
def tab57 : List (List Nat) := [[0, 1], [0, 1, 7, 8], [0, 1, 7, 8, 9], [0, 1, 5, 7, 8], [0, 1, 5, 7, 8, 16], [4], [0, 1, 7, 8], [4]]
def tab58 : List (List Nat) := [[0], [2]]
def tabs : Nat → List (List Nat)
  | 3 => tab3
  | 4 => tab4
  | 5 => tab5
  | 6 => tab6
  | 7 => tab7
  | 8 => tab8
  | 9 => tab9
  | 10 => tab10
  | 11 => tab11
  | 12 => tab12
  | 13 => tab13
  | 14 => tab14
  | 15 => tab15
  | 16 => tab16
  | 17 => tab17
  | 18 => tab18
  | 19 => tab19
  | 20 => tab20
  | 21 => tab21
  | 22 => tab22
  | 23 => tab23
  | 24 => tab24
  | 25 => tab25
  | 26 => tab26
  | 27 => tab27
  | 28 => tab28
  | 29 => tab29
  | 30 => tab30
  | 31 => tab31
  | 32 => tab32
  | 33 => tab33
  | 34 => tab34
  | 35 => tab35
  | 36 => tab36
  | 37 => tab37
  | 38 => tab38
  | 39 => tab39
  | 40 => tab40
  | 41 => tab41
  | 42 => tab42
  | 43 => tab43
  | 44 => tab44
  | 45 => tab45
  | 46 => tab46
  | 47 => tab47
  | 48 => tab48
  | 49 => tab49
  | 50 => tab50
  | 51 => tab51
  | 52 => tab52
  | 53 => tab53
  | 54 => tab54
  | 55 => tab55
  | 56 => tab56
  | 57 => tab57
  | 58 => tab58
  | _ => []
def impL : List Nat := [16, 17, 18, 32, 33, 34, 44, 45, 47, 49]
def aliL : List Nat := [38]
def gcL : List Nat := [5, 6, 7, 8, 9, 10, 11, 12, 13, 14, 15, 19, 20, 21, 22, 23, 24, 25, 26, 27, 28, 29, 30, 31, 35, 36, 37, 39, 40, 41, 42, 43, 46, 48, 50, 51, 52, 53, 54, 55, 56, 57, 58]
def ownL : List Nat := [3, 4, 5, 6, 7, 8, 9, 10, 11, 12, 13, 14, 15, 16, 17, 18, 19, 20, 21, 22, 23, 24, 25, 26, 27, 28, 29, 30, 31, 32, 33, 34, 35, 36, 37, 38, 39, 40, 41, 42, 43, 44, 45, 46, 47, 48, 49, 50, 51, 52, 53, 54, 55, 56, 57, 58]
def globT0 : List V := [.int .u8 0, .int .u8 1, .int .u8 28, .int .u8 2, .int .u8 29, .int .u8 14, .int .u8 24, .int .u8 3, .int .u8 30, .int .u8 22, .int .u8 20, .int .u8 15, .int .u8 25, .int .u8 17, .int .u8 4, .int .u8 8, .int .u8 31, .int .u8 27, .int .u8 13, .int .u8 23, .int .u8 21, .int .u8 19, .int .u8 16, .int .u8 7, .int .u8 26, .int .u8 12, .int .u8 18, .int .u8 6, .int .u8 11, .int .u8 5, .int .u8 10, .int .u8 9]
def globT1 : List V := [.int .u8 0, .int .u8 1, .int .u8 56, .int .u8 2, .int .u8 57, .int .u8 49, .int .u8 28, .int .u8 3, .int .u8 61, .int .u8 58, .int .u8 42, .int .u8 50, .int .u8 38, .int .u8 29, .int .u8 17, .int .u8 4, .int .u8 62, .int .u8 47, .int .u8 59, .int .u8 36, .int .u8 45, .int .u8 43, .int .u8 51, .int .u8 22, .int .u8 53, .int .u8 39, .int .u8 33, .int .u8 30, .int .u8 24, .int .u8 18, .int .u8 12, .int .u8 5, .int .u8 63, .int .u8 55, .int .u8 48, .int .u8 27, .int .u8 60, .int .u8 41, .int .u8 37, .int .u8 16, .int .u8 46, .int .u8 35, .int .u8 44, .int .u8 21, .int .u8 52, .int .u8 32, .int .u8 23, .int .u8 11, .int .u8 54, .int .u8 26, .int .u8 40, .int .u8 15, .int .u8 34, .int .u8 20, .int .u8 31, .int .u8 10, .int .u8 25, .int .u8 14, .int .u8 19, .int .u8 9, .int .u8 13, .int .u8 8, .int .u8 7, .int .u8 6]
def cf : Cfg where
  pure := fun f => !impL.contains f
  keep := fun f r => (tabs f).getD r []
  pack := fun f => if f = 37 then .pack [.i64] else if ownL.contains f then .whole else .no
  clone := fun f => match f with
    | 37 => some .i64
    | _ => none
  glob := fun g => match g with
    | 0 => some (.ptr 0 0)
    | 1 => some (.ptr 1 0)
    | _ => none
  rounds := 4294967296
  wary := fun f r => match f with
    | _ => false
def nil21 (t : Nat) : Option NK := if t = 4 then some (.i .i64) else none
def nil24 (t : Nat) : Option NK := if t = 4 then some (.i .i64) else none
def nil26 (t : Nat) : Option NK := if t = 2 then some (.i .i64) else if t = 3 then some (.i .i64) else none
def nil27 (t : Nat) : Option NK := if t = 4 then some (.i .i64) else none
def nil29 (t : Nat) : Option NK := if t = 4 then some (.i .i64) else if t = 5 then some (.i .i64) else none
def nil32 (t : Nat) : Option NK := if t = 3 then some (.i .i64) else none
def nil37 (t : Nat) : Option NK := if t = 2 then some (.i .i64) else none
def nil38 (t : Nat) : Option NK := if t = 2 then some (.i .i64) else none
def nil40 (t : Nat) : Option NK := if t = 3 then some (.i .i64) else none
def nil42 (t : Nat) : Option NK := if t = 4 then some (.i .i64) else none
def kn : Kn where
  cf := cf
  out := fun f => match f with
    | 3 => .frz []
    | 4 => .frz [[some (.i .i64)]]
    | 5 => .own [[some (.i .i64)]]
    | 6 => .frz []
    | 7 => .frz []
    | 8 => .frz [[some (.i .i64)]]
    | 9 => .own [[some (.i .i64)]]
    | 10 => .own [[some (.i .i64)]]
    | 11 => .own [[some (.i .i64)], [some (.i .i64)]]
    | 12 => .frz []
    | 13 => .own [[some (.i .i64)]]
    | 14 => .frz []
    | 15 => .frz []
    | 16 => .inl
    | 17 => .inl
    | 18 => .inl
    | 19 => .frz []
    | 20 => .own [[some (.i .i64)]]
    | 21 => .own [[some (.i .i64)]]
    | 22 => .frz []
    | 23 => .frz [[some (.i .i64)]]
    | 24 => .own [[some (.i .i64)]]
    | 25 => .frz []
    | 26 => .own [[some (.i .i64)]]
    | 27 => .own [[some (.i .i64)]]
    | 28 => .frz []
    | 29 => .own [[some (.i .i64)], [some (.i .i64)]]
    | 30 => .frz []
    | 31 => .frz []
    | 32 => .inl
    | 33 => .inl
    | 34 => .inl
    | 35 => .frz []
    | 36 => .frz []
    | 37 => .own [[some (.i .i64)]]
    | 38 => .inl
    | 39 => .frz []
    | 40 => .own [[some (.i .i64)]]
    | 41 => .frz []
    | 42 => .own [[some (.i .i64)]]
    | 43 => .frz []
    | 44 => .inl
    | 45 => .inl
    | 46 => .frz []
    | 47 => .inl
    | 48 => .own [[some (.i .i64)]]
    | 49 => .inl
    | 50 => .frz []
    | 51 => .frz []
    | 52 => .frz []
    | 53 => .frz []
    | 54 => .frz []
    | 55 => .frz []
    | 56 => .frz []
    | 57 => .frz []
    | 58 => .frz []
    | _ => .inl
  args := fun f => match f with
    | 3 => [[some (.i .u8)]]
    | 4 => [[some (.i .u8)]]
    | 5 => [[some (.i .i64)]]
    | 6 => [[some (.i .i64)]]
    | 7 => [[some (.i .i64)]]
    | 9 => [[some (.i .i64)]]
    | 10 => [[some (.i .i64)]]
    | 11 => [[some (.i .i64)], [some (.i .i64)]]
    | 12 => [[some (.i .i64)], [some (.i .i64)]]
    | 13 => [[some (.i .i64)], [some (.i .i64)]]
    | 14 => [[some (.i .i64)]]
    | 15 => [[some (.i .i64)]]
    | 19 => [[some (.i .i64)]]
    | 20 => [[some (.i .i64)]]
    | 21 => [[some (.i .i64)]]
    | 22 => [[some (.i .i64)]]
    | 24 => [[some (.i .i64)]]
    | 27 => [[some (.i .i64)], [some (.i .i64)]]
    | 28 => [[some (.i .i64)], [some (.i .i64)]]
    | 29 => [[some (.i .i64)], [some (.i .i64)]]
    | 30 => [[some (.i .i64)]]
    | 31 => [[some (.i .i64)]]
    | 35 => [[some (.i .i64)]]
    | 37 => [[some (.i .i64)]]
    | 38 => [[some (.i .i64)]]
    | 41 => [[some (.i .i64)], [some (.i .i64)]]
    | 42 => [[some (.i .i64)]]
    | 43 => [[some (.i .i64)], [some (.i .i64)]]
    | 48 => [[some (.i .i64)]]
    | 50 => [[some (.i .i64)]]
    | 57 => [[some (.i .i64)]]
    | _ => []
  nils := fun f => match f with
    | 21 => nil21
    | 24 => nil24
    | 26 => nil26
    | 27 => nil27
    | 29 => nil29
    | 32 => nil32
    | 37 => nil37
    | 38 => nil38
    | 40 => nil40
    | 42 => nil42
    | _ => fun _ => none
  gc := fun f => gcL.contains f
  ali := fun f => aliL.contains f
  glob := fun g => match g with
    | 0 => some (.fptr globT0)
    | 1 => some (.fptr globT1)
    | _ => none
@[simp] theorem k_cf : kn.cf = cf := rfl
/-! 3: laws.FnNatShifts -/
@[simp] theorem c_keep3 (r : Nat) : cf.keep 3 r = tab3.getD r [] := rfl
@[simp] theorem c_pure3 : cf.pure 3 = true := rfl
@[simp] theorem c_pack3 : cf.pack 3 = .whole := rfl
@[simp] theorem c_wary3 (r : Nat) : cf.wary 3 r = false := rfl
@[simp] theorem c_clone3 : cf.clone 3 = none := rfl
@[simp] theorem k_out3 : kn.out 3 = .frz [] := rfl
@[simp] theorem k_args3 : kn.args 3 = [[some (.i .u8)]] := rfl
@[simp] theorem k_nils3 : kn.nils 3 = fun _ => none := rfl
@[simp] theorem k_gc3 : kn.gc 3 = false := rfl
@[simp] theorem k_ali3 : kn.ali 3 = false := rfl
/-! 4: spec.DrawNatShl -/
@[simp] theorem c_keep4 (r : Nat) : cf.keep 4 r = tab4.getD r [] := rfl
@[simp] theorem c_pure4 : cf.pure 4 = true := rfl
@[simp] theorem c_pack4 : cf.pack 4 = .whole := rfl
@[simp] theorem c_wary4 (r : Nat) : cf.wary 4 r = false := rfl
@[simp] theorem c_clone4 : cf.clone 4 = none := rfl
@[simp] theorem k_out4 : kn.out 4 = .frz [[some (.i .i64)]] := rfl
@[simp] theorem k_args4 : kn.args 4 = [[some (.i .u8)]] := rfl
@[simp] theorem k_nils4 : kn.nils 4 = fun _ => none := rfl
@[simp] theorem k_gc4 : kn.gc 4 = false := rfl
@[simp] theorem k_ali4 : kn.ali 4 = false := rfl
/-! 5: impl.NatShl -/
@[simp] theorem c_keep5 (r : Nat) : cf.keep 5 r = tab5.getD r [] := rfl
@[simp] theorem c_pure5 : cf.pure 5 = true := rfl
@[simp] theorem c_pack5 : cf.pack 5 = .whole := rfl
@[simp] theorem c_wary5 (r : Nat) : cf.wary 5 r = false := rfl
@[simp] theorem c_clone5 : cf.clone 5 = none := rfl
@[simp] theorem k_out5 : kn.out 5 = .own [[some (.i .i64)]] := rfl
@[simp] theorem k_args5 : kn.args 5 = [[some (.i .i64)]] := rfl
@[simp] theorem k_nils5 : kn.nils 5 = fun _ => none := rfl
@[simp] theorem k_gc5 : kn.gc 5 = true := rfl
@[simp] theorem k_ali5 : kn.ali 5 = false := rfl
/-! 6: spec.NatOk -/
@[simp] theorem c_keep6 (r : Nat) : cf.keep 6 r = tab6.getD r [] := rfl
@[simp] theorem c_pure6 : cf.pure 6 = true := rfl
@[simp] theorem c_pack6 : cf.pack 6 = .whole := rfl
@[simp] theorem c_wary6 (r : Nat) : cf.wary 6 r = false := rfl
@[simp] theorem c_clone6 : cf.clone 6 = none := rfl
@[simp] theorem k_out6 : kn.out 6 = .frz [] := rfl
@[simp] theorem k_args6 : kn.args 6 = [[some (.i .i64)]] := rfl
@[simp] theorem k_nils6 : kn.nils 6 = fun _ => none := rfl
@[simp] theorem k_gc6 : kn.gc 6 = true := rfl
@[simp] theorem k_ali6 : kn.ali 6 = false := rfl
/-! 7: impl.NatBits -/
@[simp] theorem c_keep7 (r : Nat) : cf.keep 7 r = tab7.getD r [] := rfl
@[simp] theorem c_pure7 : cf.pure 7 = true := rfl
@[simp] theorem c_pack7 : cf.pack 7 = .whole := rfl
@[simp] theorem c_wary7 (r : Nat) : cf.wary 7 r = false := rfl
@[simp] theorem c_clone7 : cf.clone 7 = none := rfl
@[simp] theorem k_out7 : kn.out 7 = .frz [] := rfl
@[simp] theorem k_args7 : kn.args 7 = [[some (.i .i64)]] := rfl
@[simp] theorem k_nils7 : kn.nils 7 = fun _ => none := rfl
@[simp] theorem k_gc7 : kn.gc 7 = true := rfl
@[simp] theorem k_ali7 : kn.ali 7 = false := rfl
/-! 8: laws.nat -/
@[simp] theorem c_keep8 (r : Nat) : cf.keep 8 r = tab8.getD r [] := rfl
@[simp] theorem c_pure8 : cf.pure 8 = true := rfl
@[simp] theorem c_pack8 : cf.pack 8 = .whole := rfl
@[simp] theorem c_wary8 (r : Nat) : cf.wary 8 r = false := rfl
@[simp] theorem c_clone8 : cf.clone 8 = none := rfl
@[simp] theorem k_out8 : kn.out 8 = .frz [[some (.i .i64)]] := rfl
@[simp] theorem k_args8 : kn.args 8 = [] := rfl
@[simp] theorem k_nils8 : kn.nils 8 = fun _ => none := rfl
@[simp] theorem k_gc8 : kn.gc 8 = true := rfl
@[simp] theorem k_ali8 : kn.ali 8 = false := rfl
/-! 9: impl.NatShr -/
@[simp] theorem c_keep9 (r : Nat) : cf.keep 9 r = tab9.getD r [] := rfl
@[simp] theorem c_pure9 : cf.pure 9 = true := rfl
@[simp] theorem c_pack9 : cf.pack 9 = .whole := rfl
@[simp] theorem c_wary9 (r : Nat) : cf.wary 9 r = false := rfl
@[simp] theorem c_clone9 : cf.clone 9 = none := rfl
@[simp] theorem k_out9 : kn.out 9 = .own [[some (.i .i64)]] := rfl
@[simp] theorem k_args9 : kn.args 9 = [[some (.i .i64)]] := rfl
@[simp] theorem k_nils9 : kn.nils 9 = fun _ => none := rfl
@[simp] theorem k_gc9 : kn.gc 9 = true := rfl
@[simp] theorem k_ali9 : kn.ali 9 = false := rfl
/-! 10: impl.NatPow -/
@[simp] theorem c_keep10 (r : Nat) : cf.keep 10 r = tab10.getD r [] := rfl
@[simp] theorem c_pure10 : cf.pure 10 = true := rfl
@[simp] theorem c_pack10 : cf.pack 10 = .whole := rfl
@[simp] theorem c_wary10 (r : Nat) : cf.wary 10 r = false := rfl
@[simp] theorem c_clone10 : cf.clone 10 = none := rfl
@[simp] theorem k_out10 : kn.out 10 = .own [[some (.i .i64)]] := rfl
@[simp] theorem k_args10 : kn.args 10 = [[some (.i .i64)]] := rfl
@[simp] theorem k_nils10 : kn.nils 10 = fun _ => none := rfl
@[simp] theorem k_gc10 : kn.gc 10 = true := rfl
@[simp] theorem k_ali10 : kn.ali 10 = false := rfl
/-! 11: impl.NatDiv -/
@[simp] theorem c_keep11 (r : Nat) : cf.keep 11 r = tab11.getD r [] := rfl
@[simp] theorem c_pure11 : cf.pure 11 = true := rfl
@[simp] theorem c_pack11 : cf.pack 11 = .whole := rfl
@[simp] theorem c_wary11 (r : Nat) : cf.wary 11 r = false := rfl
@[simp] theorem c_clone11 : cf.clone 11 = none := rfl
@[simp] theorem k_out11 : kn.out 11 = .own [[some (.i .i64)], [some (.i .i64)]] := rfl
@[simp] theorem k_args11 : kn.args 11 = [[some (.i .i64)], [some (.i .i64)]] := rfl
@[simp] theorem k_nils11 : kn.nils 11 = fun _ => none := rfl
@[simp] theorem k_gc11 : kn.gc 11 = true := rfl
@[simp] theorem k_ali11 : kn.ali 11 = false := rfl
/-! 12: laws.sameNat -/
@[simp] theorem c_keep12 (r : Nat) : cf.keep 12 r = tab12.getD r [] := rfl
@[simp] theorem c_pure12 : cf.pure 12 = true := rfl
@[simp] theorem c_pack12 : cf.pack 12 = .whole := rfl
@[simp] theorem c_wary12 (r : Nat) : cf.wary 12 r = false := rfl
@[simp] theorem c_clone12 : cf.clone 12 = none := rfl
@[simp] theorem k_out12 : kn.out 12 = .frz [] := rfl
@[simp] theorem k_args12 : kn.args 12 = [[some (.i .i64)], [some (.i .i64)]] := rfl
@[simp] theorem k_nils12 : kn.nils 12 = fun _ => none := rfl
@[simp] theorem k_gc12 : kn.gc 12 = true := rfl
@[simp] theorem k_ali12 : kn.ali 12 = false := rfl
/-! 13: impl.NatMul -/
@[simp] theorem c_keep13 (r : Nat) : cf.keep 13 r = tab13.getD r [] := rfl
@[simp] theorem c_pure13 : cf.pure 13 = true := rfl
@[simp] theorem c_pack13 : cf.pack 13 = .whole := rfl
@[simp] theorem c_wary13 (r : Nat) : cf.wary 13 r = false := rfl
@[simp] theorem c_clone13 : cf.clone 13 = none := rfl
@[simp] theorem k_out13 : kn.out 13 = .own [[some (.i .i64)]] := rfl
@[simp] theorem k_args13 : kn.args 13 = [[some (.i .i64)], [some (.i .i64)]] := rfl
@[simp] theorem k_nils13 : kn.nils 13 = fun _ => none := rfl
@[simp] theorem k_gc13 : kn.gc 13 = true := rfl
@[simp] theorem k_ali13 : kn.ali 13 = false := rfl
/-! 14: impl.NatTrail -/
@[simp] theorem c_keep14 (r : Nat) : cf.keep 14 r = tab14.getD r [] := rfl
@[simp] theorem c_pure14 : cf.pure 14 = true := rfl
@[simp] theorem c_pack14 : cf.pack 14 = .whole := rfl
@[simp] theorem c_wary14 (r : Nat) : cf.wary 14 r = false := rfl
@[simp] theorem c_clone14 : cf.clone 14 = none := rfl
@[simp] theorem k_out14 : kn.out 14 = .frz [] := rfl
@[simp] theorem k_args14 : kn.args 14 = [[some (.i .i64)]] := rfl
@[simp] theorem k_nils14 : kn.nils 14 = fun _ => none := rfl
@[simp] theorem k_gc14 : kn.gc 14 = true := rfl
@[simp] theorem k_ali14 : kn.ali 14 = false := rfl
/-! 15: impl.NatBit -/
@[simp] theorem c_keep15 (r : Nat) : cf.keep 15 r = tab15.getD r [] := rfl
@[simp] theorem c_pure15 : cf.pure 15 = true := rfl
@[simp] theorem c_pack15 : cf.pack 15 = .whole := rfl
@[simp] theorem c_wary15 (r : Nat) : cf.wary 15 r = false := rfl
@[simp] theorem c_clone15 : cf.clone 15 = none := rfl
@[simp] theorem k_out15 : kn.out 15 = .frz [] := rfl
@[simp] theorem k_args15 : kn.args 15 = [[some (.i .i64)]] := rfl
@[simp] theorem k_nils15 : kn.nils 15 = fun _ => none := rfl
@[simp] theorem k_gc15 : kn.gc 15 = true := rfl
@[simp] theorem k_ali15 : kn.ali 15 = false := rfl
/-! 16: spec.l1New -/
@[simp] theorem c_keep16 (r : Nat) : cf.keep 16 r = tab16.getD r [] := rfl
@[simp] theorem c_pure16 : cf.pure 16 = false := rfl
@[simp] theorem c_pack16 : cf.pack 16 = .whole := rfl
@[simp] theorem c_wary16 (r : Nat) : cf.wary 16 r = false := rfl
@[simp] theorem c_clone16 : cf.clone 16 = none := rfl
@[simp] theorem k_out16 : kn.out 16 = .inl := rfl
@[simp] theorem k_args16 : kn.args 16 = [] := rfl
@[simp] theorem k_nils16 : kn.nils 16 = fun _ => none := rfl
@[simp] theorem k_gc16 : kn.gc 16 = false := rfl
@[simp] theorem k_ali16 : kn.ali 16 = false := rfl
/-! 17: spec.l2bent -/
@[simp] theorem c_keep17 (r : Nat) : cf.keep 17 r = tab17.getD r [] := rfl
@[simp] theorem c_pure17 : cf.pure 17 = false := rfl
@[simp] theorem c_pack17 : cf.pack 17 = .whole := rfl
@[simp] theorem c_wary17 (r : Nat) : cf.wary 17 r = false := rfl
@[simp] theorem c_clone17 : cf.clone 17 = none := rfl
@[simp] theorem k_out17 : kn.out 17 = .inl := rfl
@[simp] theorem k_args17 : kn.args 17 = [] := rfl
@[simp] theorem k_nils17 : kn.nils 17 = fun _ => none := rfl
@[simp] theorem k_gc17 : kn.gc 17 = false := rfl
@[simp] theorem k_ali17 : kn.ali 17 = false := rfl
/-! 18: spec.l1PickInt -/
@[simp] theorem c_keep18 (r : Nat) : cf.keep 18 r = tab18.getD r [] := rfl
@[simp] theorem c_pure18 : cf.pure 18 = false := rfl
@[simp] theorem c_pack18 : cf.pack 18 = .whole := rfl
@[simp] theorem c_wary18 (r : Nat) : cf.wary 18 r = false := rfl
@[simp] theorem c_clone18 : cf.clone 18 = none := rfl
@[simp] theorem k_out18 : kn.out 18 = .inl := rfl
@[simp] theorem k_args18 : kn.args 18 = [] := rfl
@[simp] theorem k_nils18 : kn.nils 18 = fun _ => none := rfl
@[simp] theorem k_gc18 : kn.gc 18 = false := rfl
@[simp] theorem k_ali18 : kn.ali 18 = false := rfl
/-! 19: impl.NatOk -/
@[simp] theorem c_keep19 (r : Nat) : cf.keep 19 r = tab19.getD r [] := rfl
@[simp] theorem c_pure19 : cf.pure 19 = true := rfl
@[simp] theorem c_pack19 : cf.pack 19 = .whole := rfl
@[simp] theorem c_wary19 (r : Nat) : cf.wary 19 r = false := rfl
@[simp] theorem c_clone19 : cf.clone 19 = none := rfl
@[simp] theorem k_out19 : kn.out 19 = .frz [] := rfl
@[simp] theorem k_args19 : kn.args 19 = [[some (.i .i64)]] := rfl
@[simp] theorem k_nils19 : kn.nils 19 = fun _ => none := rfl
@[simp] theorem k_gc19 : kn.gc 19 = true := rfl
@[simp] theorem k_ali19 : kn.ali 19 = false := rfl
/-! 20: impl.natOf -/
@[simp] theorem c_keep20 (r : Nat) : cf.keep 20 r = tab20.getD r [] := rfl
@[simp] theorem c_pure20 : cf.pure 20 = true := rfl
@[simp] theorem c_pack20 : cf.pack 20 = .whole := rfl
@[simp] theorem c_wary20 (r : Nat) : cf.wary 20 r = false := rfl
@[simp] theorem c_clone20 : cf.clone 20 = none := rfl
@[simp] theorem k_out20 : kn.out 20 = .own [[some (.i .i64)]] := rfl
@[simp] theorem k_args20 : kn.args 20 = [[some (.i .i64)]] := rfl
@[simp] theorem k_nils20 : kn.nils 20 = fun _ => none := rfl
@[simp] theorem k_gc20 : kn.gc 20 = true := rfl
@[simp] theorem k_ali20 : kn.ali 20 = false := rfl
/-! 21: impl.up -/
@[simp] theorem c_keep21 (r : Nat) : cf.keep 21 r = tab21.getD r [] := rfl
@[simp] theorem c_pure21 : cf.pure 21 = true := rfl
@[simp] theorem c_pack21 : cf.pack 21 = .whole := rfl
@[simp] theorem c_wary21 (r : Nat) : cf.wary 21 r = false := rfl
@[simp] theorem c_clone21 : cf.clone 21 = none := rfl
@[simp] theorem k_out21 : kn.out 21 = .own [[some (.i .i64)]] := rfl
@[simp] theorem k_args21 : kn.args 21 = [[some (.i .i64)]] := rfl
@[simp] theorem k_nils21 : kn.nils 21 = nil21 := rfl
@[simp] theorem k_gc21 : kn.gc 21 = true := rfl
@[simp] theorem k_ali21 : kn.ali 21 = false := rfl
/-! 22: impl.bitsOf -/
@[simp] theorem c_keep22 (r : Nat) : cf.keep 22 r = tab22.getD r [] := rfl
@[simp] theorem c_pure22 : cf.pure 22 = true := rfl
@[simp] theorem c_pack22 : cf.pack 22 = .whole := rfl
@[simp] theorem c_wary22 (r : Nat) : cf.wary 22 r = false := rfl
@[simp] theorem c_clone22 : cf.clone 22 = none := rfl
@[simp] theorem k_out22 : kn.out 22 = .frz [] := rfl
@[simp] theorem k_args22 : kn.args 22 = [[some (.i .i64)]] := rfl
@[simp] theorem k_nils22 : kn.nils 22 = fun _ => none := rfl
@[simp] theorem k_gc22 : kn.gc 22 = true := rfl
@[simp] theorem k_ali22 : kn.ali 22 = false := rfl
/-! 23: spec.NatOf -/
@[simp] theorem c_keep23 (r : Nat) : cf.keep 23 r = tab23.getD r [] := rfl
@[simp] theorem c_pure23 : cf.pure 23 = true := rfl
@[simp] theorem c_pack23 : cf.pack 23 = .whole := rfl
@[simp] theorem c_wary23 (r : Nat) : cf.wary 23 r = false := rfl
@[simp] theorem c_clone23 : cf.clone 23 = none := rfl
@[simp] theorem k_out23 : kn.out 23 = .frz [[some (.i .i64)]] := rfl
@[simp] theorem k_args23 : kn.args 23 = [] := rfl
@[simp] theorem k_nils23 : kn.nils 23 = fun _ => none := rfl
@[simp] theorem k_gc23 : kn.gc 23 = true := rfl
@[simp] theorem k_ali23 : kn.ali 23 = false := rfl
/-! 24: impl.down -/
@[simp] theorem c_keep24 (r : Nat) : cf.keep 24 r = tab24.getD r [] := rfl
@[simp] theorem c_pure24 : cf.pure 24 = true := rfl
@[simp] theorem c_pack24 : cf.pack 24 = .whole := rfl
@[simp] theorem c_wary24 (r : Nat) : cf.wary 24 r = false := rfl
@[simp] theorem c_clone24 : cf.clone 24 = none := rfl
@[simp] theorem k_out24 : kn.out 24 = .own [[some (.i .i64)]] := rfl
@[simp] theorem k_args24 : kn.args 24 = [[some (.i .i64)]] := rfl
@[simp] theorem k_nils24 : kn.nils 24 = nil24 := rfl
@[simp] theorem k_gc24 : kn.gc 24 = true := rfl
@[simp] theorem k_ali24 : kn.ali 24 = false := rfl
/-! 25: impl.within -/
@[simp] theorem c_keep25 (r : Nat) : cf.keep 25 r = tab25.getD r [] := rfl
@[simp] theorem c_pure25 : cf.pure 25 = true := rfl
@[simp] theorem c_pack25 : cf.pack 25 = .whole := rfl
@[simp] theorem c_wary25 (r : Nat) : cf.wary 25 r = false := rfl
@[simp] theorem c_clone25 : cf.clone 25 = none := rfl
@[simp] theorem k_out25 : kn.out 25 = .frz [] := rfl
@[simp] theorem k_args25 : kn.args 25 = [] := rfl
@[simp] theorem k_nils25 : kn.nils 25 = fun _ => none := rfl
@[simp] theorem k_gc25 : kn.gc 25 = true := rfl
@[simp] theorem k_ali25 : kn.ali 25 = false := rfl
/-! 26: impl.small -/
@[simp] theorem c_keep26 (r : Nat) : cf.keep 26 r = tab26.getD r [] := rfl
@[simp] theorem c_pure26 : cf.pure 26 = true := rfl
@[simp] theorem c_pack26 : cf.pack 26 = .whole := rfl
@[simp] theorem c_wary26 (r : Nat) : cf.wary 26 r = false := rfl
@[simp] theorem c_clone26 : cf.clone 26 = none := rfl
@[simp] theorem k_out26 : kn.out 26 = .own [[some (.i .i64)]] := rfl
@[simp] theorem k_args26 : kn.args 26 = [] := rfl
@[simp] theorem k_nils26 : kn.nils 26 = nil26 := rfl
@[simp] theorem k_gc26 : kn.gc 26 = true := rfl
@[simp] theorem k_ali26 : kn.ali 26 = false := rfl
/-! 27: impl.times -/
@[simp] theorem c_keep27 (r : Nat) : cf.keep 27 r = tab27.getD r [] := rfl
@[simp] theorem c_pure27 : cf.pure 27 = true := rfl
@[simp] theorem c_pack27 : cf.pack 27 = .whole := rfl
@[simp] theorem c_wary27 (r : Nat) : cf.wary 27 r = false := rfl
@[simp] theorem c_clone27 : cf.clone 27 = none := rfl
@[simp] theorem k_out27 : kn.out 27 = .own [[some (.i .i64)]] := rfl
@[simp] theorem k_args27 : kn.args 27 = [[some (.i .i64)], [some (.i .i64)]] := rfl
@[simp] theorem k_nils27 : kn.nils 27 = nil27 := rfl
@[simp] theorem k_gc27 : kn.gc 27 = true := rfl
@[simp] theorem k_ali27 : kn.ali 27 = false := rfl
/-! 28: impl.areNats -/
@[simp] theorem c_keep28 (r : Nat) : cf.keep 28 r = tab28.getD r [] := rfl
@[simp] theorem c_pure28 : cf.pure 28 = true := rfl
@[simp] theorem c_pack28 : cf.pack 28 = .whole := rfl
@[simp] theorem c_wary28 (r : Nat) : cf.wary 28 r = false := rfl
@[simp] theorem c_clone28 : cf.clone 28 = none := rfl
@[simp] theorem k_out28 : kn.out 28 = .frz [] := rfl
@[simp] theorem k_args28 : kn.args 28 = [[some (.i .i64)], [some (.i .i64)]] := rfl
@[simp] theorem k_nils28 : kn.nils 28 = fun _ => none := rfl
@[simp] theorem k_gc28 : kn.gc 28 = true := rfl
@[simp] theorem k_ali28 : kn.ali 28 = false := rfl
/-! 29: impl.divide -/
@[simp] theorem c_keep29 (r : Nat) : cf.keep 29 r = tab29.getD r [] := rfl
@[simp] theorem c_pure29 : cf.pure 29 = true := rfl
@[simp] theorem c_pack29 : cf.pack 29 = .whole := rfl
@[simp] theorem c_wary29 (r : Nat) : cf.wary 29 r = false := rfl
@[simp] theorem c_clone29 : cf.clone 29 = none := rfl
@[simp] theorem k_out29 : kn.out 29 = .own [[some (.i .i64)], [some (.i .i64)]] := rfl
@[simp] theorem k_args29 : kn.args 29 = [[some (.i .i64)], [some (.i .i64)]] := rfl
@[simp] theorem k_nils29 : kn.nils 29 = nil29 := rfl
@[simp] theorem k_gc29 : kn.gc 29 = true := rfl
@[simp] theorem k_ali29 : kn.ali 29 = false := rfl
/-! 30: impl.trailOf -/
@[simp] theorem c_keep30 (r : Nat) : cf.keep 30 r = tab30.getD r [] := rfl
@[simp] theorem c_pure30 : cf.pure 30 = true := rfl
@[simp] theorem c_pack30 : cf.pack 30 = .whole := rfl
@[simp] theorem c_wary30 (r : Nat) : cf.wary 30 r = false := rfl
@[simp] theorem c_clone30 : cf.clone 30 = none := rfl
@[simp] theorem k_out30 : kn.out 30 = .frz [] := rfl
@[simp] theorem k_args30 : kn.args 30 = [[some (.i .i64)]] := rfl
@[simp] theorem k_nils30 : kn.nils 30 = fun _ => none := rfl
@[simp] theorem k_gc30 : kn.gc 30 = true := rfl
@[simp] theorem k_ali30 : kn.ali 30 = false := rfl
/-! 31: impl.bitOf -/
@[simp] theorem c_keep31 (r : Nat) : cf.keep 31 r = tab31.getD r [] := rfl
@[simp] theorem c_pure31 : cf.pure 31 = true := rfl
@[simp] theorem c_pack31 : cf.pack 31 = .whole := rfl
@[simp] theorem c_wary31 (r : Nat) : cf.wary 31 r = false := rfl
@[simp] theorem c_clone31 : cf.clone 31 = none := rfl
@[simp] theorem k_out31 : kn.out 31 = .frz [] := rfl
@[simp] theorem k_args31 : kn.args 31 = [[some (.i .i64)]] := rfl
@[simp] theorem k_nils31 : kn.nils 31 = fun _ => none := rfl
@[simp] theorem k_gc31 : kn.gc 31 = true := rfl
@[simp] theorem k_ali31 : kn.ali 31 = false := rfl
/-! 32: spec.l2draw -/
@[simp] theorem c_keep32 (r : Nat) : cf.keep 32 r = tab32.getD r [] := rfl
@[simp] theorem c_pure32 : cf.pure 32 = false := rfl
@[simp] theorem c_pack32 : cf.pack 32 = .whole := rfl
@[simp] theorem c_wary32 (r : Nat) : cf.wary 32 r = false := rfl
@[simp] theorem c_clone32 : cf.clone 32 = none := rfl
@[simp] theorem k_out32 : kn.out 32 = .inl := rfl
@[simp] theorem k_args32 : kn.args 32 = [] := rfl
@[simp] theorem k_nils32 : kn.nils 32 = nil32 := rfl
@[simp] theorem k_gc32 : kn.gc 32 = false := rfl
@[simp] theorem k_ali32 : kn.ali 32 = false := rfl
/-! 33: spec.l1Once -/
@[simp] theorem c_keep33 (r : Nat) : cf.keep 33 r = tab33.getD r [] := rfl
@[simp] theorem c_pure33 : cf.pure 33 = false := rfl
@[simp] theorem c_pack33 : cf.pack 33 = .whole := rfl
@[simp] theorem c_wary33 (r : Nat) : cf.wary 33 r = false := rfl
@[simp] theorem c_clone33 : cf.clone 33 = none := rfl
@[simp] theorem k_out33 : kn.out 33 = .inl := rfl
@[simp] theorem k_args33 : kn.args 33 = [] := rfl
@[simp] theorem k_nils33 : kn.nils 33 = fun _ => none := rfl
@[simp] theorem k_gc33 : kn.gc 33 = false := rfl
@[simp] theorem k_ali33 : kn.ali 33 = false := rfl
/-! 34: spec.l1Below -/
@[simp] theorem c_keep34 (r : Nat) : cf.keep 34 r = tab34.getD r [] := rfl
@[simp] theorem c_pure34 : cf.pure 34 = false := rfl
@[simp] theorem c_pack34 : cf.pack 34 = .whole := rfl
@[simp] theorem c_wary34 (r : Nat) : cf.wary 34 r = false := rfl
@[simp] theorem c_clone34 : cf.clone 34 = none := rfl
@[simp] theorem k_out34 : kn.out 34 = .inl := rfl
@[simp] theorem k_args34 : kn.args 34 = [] := rfl
@[simp] theorem k_nils34 : kn.nils 34 = fun _ => none := rfl
@[simp] theorem k_gc34 : kn.gc 34 = false := rfl
@[simp] theorem k_ali34 : kn.ali 34 = false := rfl
/-! 35: impl.areAll[int] -/
@[simp] theorem c_keep35 (r : Nat) : cf.keep 35 r = tab35.getD r [] := rfl
@[simp] theorem c_pure35 : cf.pure 35 = true := rfl
@[simp] theorem c_pack35 : cf.pack 35 = .whole := rfl
@[simp] theorem c_wary35 (r : Nat) : cf.wary 35 r = false := rfl
@[simp] theorem c_clone35 : cf.clone 35 = none := rfl
@[simp] theorem k_out35 : kn.out 35 = .frz [] := rfl
@[simp] theorem k_args35 : kn.args 35 = [[some (.i .i64)]] := rfl
@[simp] theorem k_nils35 : kn.nils 35 = fun _ => none := rfl
@[simp] theorem k_gc35 : kn.gc 35 = true := rfl
@[simp] theorem k_ali35 : kn.ali 35 = false := rfl
/-! 36: impl.NatOk$1 -/
@[simp] theorem c_keep36 (r : Nat) : cf.keep 36 r = tab36.getD r [] := rfl
@[simp] theorem c_pure36 : cf.pure 36 = true := rfl
@[simp] theorem c_pack36 : cf.pack 36 = .whole := rfl
@[simp] theorem c_wary36 (r : Nat) : cf.wary 36 r = false := rfl
@[simp] theorem c_clone36 : cf.clone 36 = none := rfl
@[simp] theorem k_out36 : kn.out 36 = .frz [] := rfl
@[simp] theorem k_args36 : kn.args 36 = [] := rfl
@[simp] theorem k_nils36 : kn.nils 36 = fun _ => none := rfl
@[simp] theorem k_gc36 : kn.gc 36 = true := rfl
@[simp] theorem k_ali36 : kn.ali 36 = false := rfl
/-! 37: slices.Clone[[]int,int] -/
@[simp] theorem c_keep37 (r : Nat) : cf.keep 37 r = tab37.getD r [] := rfl
@[simp] theorem c_pure37 : cf.pure 37 = true := rfl
@[simp] theorem c_pack37 : cf.pack 37 = .pack [.i64] := rfl
@[simp] theorem c_wary37 (r : Nat) : cf.wary 37 r = false := rfl
@[simp] theorem c_clone37 : cf.clone 37 = some .i64 := rfl
@[simp] theorem k_out37 : kn.out 37 = .own [[some (.i .i64)]] := rfl
@[simp] theorem k_args37 : kn.args 37 = [[some (.i .i64)]] := rfl
@[simp] theorem k_nils37 : kn.nils 37 = nil37 := rfl
@[simp] theorem k_gc37 : kn.gc 37 = true := rfl
@[simp] theorem k_ali37 : kn.ali 37 = false := rfl
/-! 38: impl.trim -/
@[simp] theorem c_keep38 (r : Nat) : cf.keep 38 r = tab38.getD r [] := rfl
@[simp] theorem c_pure38 : cf.pure 38 = true := rfl
@[simp] theorem c_pack38 : cf.pack 38 = .whole := rfl
@[simp] theorem c_wary38 (r : Nat) : cf.wary 38 r = false := rfl
@[simp] theorem c_clone38 : cf.clone 38 = none := rfl
@[simp] theorem k_out38 : kn.out 38 = .inl := rfl
@[simp] theorem k_args38 : kn.args 38 = [[some (.i .i64)]] := rfl
@[simp] theorem k_nils38 : kn.nils 38 = nil38 := rfl
@[simp] theorem k_gc38 : kn.gc 38 = false := rfl
@[simp] theorem k_ali38 : kn.ali 38 = true := rfl
/-! 39: math/bits.Len -/
@[simp] theorem c_keep39 (r : Nat) : cf.keep 39 r = tab39.getD r [] := rfl
@[simp] theorem c_pure39 : cf.pure 39 = true := rfl
@[simp] theorem c_pack39 : cf.pack 39 = .whole := rfl
@[simp] theorem c_wary39 (r : Nat) : cf.wary 39 r = false := rfl
@[simp] theorem c_clone39 : cf.clone 39 = none := rfl
@[simp] theorem k_out39 : kn.out 39 = .frz [] := rfl
@[simp] theorem k_args39 : kn.args 39 = [] := rfl
@[simp] theorem k_nils39 : kn.nils 39 = fun _ => none := rfl
@[simp] theorem k_gc39 : kn.gc 39 = true := rfl
@[simp] theorem k_ali39 : kn.ali 39 = false := rfl
/-! 40: spec.l2of -/
@[simp] theorem c_keep40 (r : Nat) : cf.keep 40 r = tab40.getD r [] := rfl
@[simp] theorem c_pure40 : cf.pure 40 = true := rfl
@[simp] theorem c_pack40 : cf.pack 40 = .whole := rfl
@[simp] theorem c_wary40 (r : Nat) : cf.wary 40 r = false := rfl
@[simp] theorem c_clone40 : cf.clone 40 = none := rfl
@[simp] theorem k_out40 : kn.out 40 = .own [[some (.i .i64)]] := rfl
@[simp] theorem k_args40 : kn.args 40 = [] := rfl
@[simp] theorem k_nils40 : kn.nils 40 = nil40 := rfl
@[simp] theorem k_gc40 : kn.gc 40 = true := rfl
@[simp] theorem k_ali40 : kn.ali 40 = false := rfl
/-! 41: impl.compare -/
@[simp] theorem c_keep41 (r : Nat) : cf.keep 41 r = tab41.getD r [] := rfl
@[simp] theorem c_pure41 : cf.pure 41 = true := rfl
@[simp] theorem c_pack41 : cf.pack 41 = .whole := rfl
@[simp] theorem c_wary41 (r : Nat) : cf.wary 41 r = false := rfl
@[simp] theorem c_clone41 : cf.clone 41 = none := rfl
@[simp] theorem k_out41 : kn.out 41 = .frz [] := rfl
@[simp] theorem k_args41 : kn.args 41 = [[some (.i .i64)], [some (.i .i64)]] := rfl
@[simp] theorem k_nils41 : kn.nils 41 = fun _ => none := rfl
@[simp] theorem k_gc41 : kn.gc 41 = true := rfl
@[simp] theorem k_ali41 : kn.ali 41 = false := rfl
/-! 42: impl.divideSmall -/
@[simp] theorem c_keep42 (r : Nat) : cf.keep 42 r = tab42.getD r [] := rfl
@[simp] theorem c_pure42 : cf.pure 42 = true := rfl
@[simp] theorem c_pack42 : cf.pack 42 = .whole := rfl
@[simp] theorem c_wary42 (r : Nat) : cf.wary 42 r = false := rfl
@[simp] theorem c_clone42 : cf.clone 42 = none := rfl
@[simp] theorem k_out42 : kn.out 42 = .own [[some (.i .i64)]] := rfl
@[simp] theorem k_args42 : kn.args 42 = [[some (.i .i64)]] := rfl
@[simp] theorem k_nils42 : kn.nils 42 = nil42 := rfl
@[simp] theorem k_gc42 : kn.gc 42 = true := rfl
@[simp] theorem k_ali42 : kn.ali 42 = false := rfl
/-! 43: impl.digitOf -/
@[simp] theorem c_keep43 (r : Nat) : cf.keep 43 r = tab43.getD r [] := rfl
@[simp] theorem c_pure43 : cf.pure 43 = true := rfl
@[simp] theorem c_pack43 : cf.pack 43 = .whole := rfl
@[simp] theorem c_wary43 (r : Nat) : cf.wary 43 r = false := rfl
@[simp] theorem c_clone43 : cf.clone 43 = none := rfl
@[simp] theorem k_out43 : kn.out 43 = .frz [] := rfl
@[simp] theorem k_args43 : kn.args 43 = [[some (.i .i64)], [some (.i .i64)]] := rfl
@[simp] theorem k_nils43 : kn.nils 43 = fun _ => none := rfl
@[simp] theorem k_gc43 : kn.gc 43 = true := rfl
@[simp] theorem k_ali43 : kn.ali 43 = false := rfl
/-! 44: impl.takeAway -/
@[simp] theorem c_keep44 (r : Nat) : cf.keep 44 r = tab44.getD r [] := rfl
@[simp] theorem c_pure44 : cf.pure 44 = false := rfl
@[simp] theorem c_pack44 : cf.pack 44 = .whole := rfl
@[simp] theorem c_wary44 (r : Nat) : cf.wary 44 r = false := rfl
@[simp] theorem c_clone44 : cf.clone 44 = none := rfl
@[simp] theorem k_out44 : kn.out 44 = .inl := rfl
@[simp] theorem k_args44 : kn.args 44 = [] := rfl
@[simp] theorem k_nils44 : kn.nils 44 = fun _ => none := rfl
@[simp] theorem k_gc44 : kn.gc 44 = false := rfl
@[simp] theorem k_ali44 : kn.ali 44 = false := rfl
/-! 45: impl.addBack -/
@[simp] theorem c_keep45 (r : Nat) : cf.keep 45 r = tab45.getD r [] := rfl
@[simp] theorem c_pure45 : cf.pure 45 = false := rfl
@[simp] theorem c_pack45 : cf.pack 45 = .whole := rfl
@[simp] theorem c_wary45 (r : Nat) : cf.wary 45 r = false := rfl
@[simp] theorem c_clone45 : cf.clone 45 = none := rfl
@[simp] theorem k_out45 : kn.out 45 = .inl := rfl
@[simp] theorem k_args45 : kn.args 45 = [] := rfl
@[simp] theorem k_nils45 : kn.nils 45 = fun _ => none := rfl
@[simp] theorem k_gc45 : kn.gc 45 = false := rfl
@[simp] theorem k_ali45 : kn.ali 45 = false := rfl
/-! 46: math/bits.TrailingZeros -/
@[simp] theorem c_keep46 (r : Nat) : cf.keep 46 r = tab46.getD r [] := rfl
@[simp] theorem c_pure46 : cf.pure 46 = true := rfl
@[simp] theorem c_pack46 : cf.pack 46 = .whole := rfl
@[simp] theorem c_wary46 (r : Nat) : cf.wary 46 r = false := rfl
@[simp] theorem c_clone46 : cf.clone 46 = none := rfl
@[simp] theorem k_out46 : kn.out 46 = .frz [] := rfl
@[simp] theorem k_args46 : kn.args 46 = [] := rfl
@[simp] theorem k_nils46 : kn.nils 46 = fun _ => none := rfl
@[simp] theorem k_gc46 : kn.gc 46 = true := rfl
@[simp] theorem k_ali46 : kn.ali 46 = false := rfl
/-! 47: spec.l2drawLen -/
@[simp] theorem c_keep47 (r : Nat) : cf.keep 47 r = tab47.getD r [] := rfl
@[simp] theorem c_pure47 : cf.pure 47 = false := rfl
@[simp] theorem c_pack47 : cf.pack 47 = .whole := rfl
@[simp] theorem c_wary47 (r : Nat) : cf.wary 47 r = false := rfl
@[simp] theorem c_clone47 : cf.clone 47 = none := rfl
@[simp] theorem k_out47 : kn.out 47 = .inl := rfl
@[simp] theorem k_args47 : kn.args 47 = [] := rfl
@[simp] theorem k_nils47 : kn.nils 47 = fun _ => none := rfl
@[simp] theorem k_gc47 : kn.gc 47 = false := rfl
@[simp] theorem k_ali47 : kn.ali 47 = false := rfl
/-! 48: spec.l2norm -/
@[simp] theorem c_keep48 (r : Nat) : cf.keep 48 r = tab48.getD r [] := rfl
@[simp] theorem c_pure48 : cf.pure 48 = true := rfl
@[simp] theorem c_pack48 : cf.pack 48 = .whole := rfl
@[simp] theorem c_wary48 (r : Nat) : cf.wary 48 r = false := rfl
@[simp] theorem c_clone48 : cf.clone 48 = none := rfl
@[simp] theorem k_out48 : kn.out 48 = .own [[some (.i .i64)]] := rfl
@[simp] theorem k_args48 : kn.args 48 = [[some (.i .i64)]] := rfl
@[simp] theorem k_nils48 : kn.nils 48 = fun _ => none := rfl
@[simp] theorem k_gc48 : kn.gc 48 = true := rfl
@[simp] theorem k_ali48 : kn.ali 48 = false := rfl
/-! 49: spec.l1Byte -/
@[simp] theorem c_keep49 (r : Nat) : cf.keep 49 r = tab49.getD r [] := rfl
@[simp] theorem c_pure49 : cf.pure 49 = false := rfl
@[simp] theorem c_pack49 : cf.pack 49 = .whole := rfl
@[simp] theorem c_wary49 (r : Nat) : cf.wary 49 r = false := rfl
@[simp] theorem c_clone49 : cf.clone 49 = none := rfl
@[simp] theorem k_out49 : kn.out 49 = .inl := rfl
@[simp] theorem k_args49 : kn.args 49 = [] := rfl
@[simp] theorem k_nils49 : kn.nils 49 = fun _ => none := rfl
@[simp] theorem k_gc49 : kn.gc 49 = false := rfl
@[simp] theorem k_ali49 : kn.ali 49 = false := rfl
/-! 50: slices.ContainsFunc[[]int,int] -/
@[simp] theorem c_keep50 (r : Nat) : cf.keep 50 r = tab50.getD r [] := rfl
@[simp] theorem c_pure50 : cf.pure 50 = true := rfl
@[simp] theorem c_pack50 : cf.pack 50 = .whole := rfl
@[simp] theorem c_wary50 (r : Nat) : cf.wary 50 r = false := rfl
@[simp] theorem c_clone50 : cf.clone 50 = none := rfl
@[simp] theorem k_out50 : kn.out 50 = .frz [] := rfl
@[simp] theorem k_args50 : kn.args 50 = [[some (.i .i64)]] := rfl
@[simp] theorem k_nils50 : kn.nils 50 = fun _ => none := rfl
@[simp] theorem k_gc50 : kn.gc 50 = true := rfl
@[simp] theorem k_ali50 : kn.ali 50 = false := rfl
/-! 51: impl.areAll[int]$1 -/
@[simp] theorem c_keep51 (r : Nat) : cf.keep 51 r = tab51.getD r [] := rfl
@[simp] theorem c_pure51 : cf.pure 51 = true := rfl
@[simp] theorem c_pack51 : cf.pack 51 = .whole := rfl
@[simp] theorem c_wary51 (r : Nat) : cf.wary 51 r = false := rfl
@[simp] theorem c_clone51 : cf.clone 51 = none := rfl
@[simp] theorem k_out51 : kn.out 51 = .frz [] := rfl
@[simp] theorem k_args51 : kn.args 51 = [] := rfl
@[simp] theorem k_nils51 : kn.nils 51 = fun _ => none := rfl
@[simp] theorem k_gc51 : kn.gc 51 = true := rfl
@[simp] theorem k_ali51 : kn.ali 51 = false := rfl
/-! 52: math/bits.Len32 -/
@[simp] theorem c_keep52 (r : Nat) : cf.keep 52 r = tab52.getD r [] := rfl
@[simp] theorem c_pure52 : cf.pure 52 = true := rfl
@[simp] theorem c_pack52 : cf.pack 52 = .whole := rfl
@[simp] theorem c_wary52 (r : Nat) : cf.wary 52 r = false := rfl
@[simp] theorem c_clone52 : cf.clone 52 = none := rfl
@[simp] theorem k_out52 : kn.out 52 = .frz [] := rfl
@[simp] theorem k_args52 : kn.args 52 = [] := rfl
@[simp] theorem k_nils52 : kn.nils 52 = fun _ => none := rfl
@[simp] theorem k_gc52 : kn.gc 52 = true := rfl
@[simp] theorem k_ali52 : kn.ali 52 = false := rfl
/-! 53: math/bits.Len64 -/
@[simp] theorem c_keep53 (r : Nat) : cf.keep 53 r = tab53.getD r [] := rfl
@[simp] theorem c_pure53 : cf.pure 53 = true := rfl
@[simp] theorem c_pack53 : cf.pack 53 = .whole := rfl
@[simp] theorem c_wary53 (r : Nat) : cf.wary 53 r = false := rfl
@[simp] theorem c_clone53 : cf.clone 53 = none := rfl
@[simp] theorem k_out53 : kn.out 53 = .frz [] := rfl
@[simp] theorem k_args53 : kn.args 53 = [] := rfl
@[simp] theorem k_nils53 : kn.nils 53 = fun _ => none := rfl
@[simp] theorem k_gc53 : kn.gc 53 = true := rfl
@[simp] theorem k_ali53 : kn.ali 53 = false := rfl
/-! 54: cmp.Compare[int] -/
@[simp] theorem c_keep54 (r : Nat) : cf.keep 54 r = tab54.getD r [] := rfl
@[simp] theorem c_pure54 : cf.pure 54 = true := rfl
@[simp] theorem c_pack54 : cf.pack 54 = .whole := rfl
@[simp] theorem c_wary54 (r : Nat) : cf.wary 54 r = false := rfl
@[simp] theorem c_clone54 : cf.clone 54 = none := rfl
@[simp] theorem k_out54 : kn.out 54 = .frz [] := rfl
@[simp] theorem k_args54 : kn.args 54 = [] := rfl
@[simp] theorem k_nils54 : kn.nils 54 = fun _ => none := rfl
@[simp] theorem k_gc54 : kn.gc 54 = true := rfl
@[simp] theorem k_ali54 : kn.ali 54 = false := rfl
/-! 55: math/bits.TrailingZeros32 -/
@[simp] theorem c_keep55 (r : Nat) : cf.keep 55 r = tab55.getD r [] := rfl
@[simp] theorem c_pure55 : cf.pure 55 = true := rfl
@[simp] theorem c_pack55 : cf.pack 55 = .whole := rfl
@[simp] theorem c_wary55 (r : Nat) : cf.wary 55 r = false := rfl
@[simp] theorem c_clone55 : cf.clone 55 = none := rfl
@[simp] theorem k_out55 : kn.out 55 = .frz [] := rfl
@[simp] theorem k_args55 : kn.args 55 = [] := rfl
@[simp] theorem k_nils55 : kn.nils 55 = fun _ => none := rfl
@[simp] theorem k_gc55 : kn.gc 55 = true := rfl
@[simp] theorem k_ali55 : kn.ali 55 = false := rfl
/-! 56: math/bits.TrailingZeros64 -/
@[simp] theorem c_keep56 (r : Nat) : cf.keep 56 r = tab56.getD r [] := rfl
@[simp] theorem c_pure56 : cf.pure 56 = true := rfl
@[simp] theorem c_pack56 : cf.pack 56 = .whole := rfl
@[simp] theorem c_wary56 (r : Nat) : cf.wary 56 r = false := rfl
@[simp] theorem c_clone56 : cf.clone 56 = none := rfl
@[simp] theorem k_out56 : kn.out 56 = .frz [] := rfl
@[simp] theorem k_args56 : kn.args 56 = [] := rfl
@[simp] theorem k_nils56 : kn.nils 56 = fun _ => none := rfl
@[simp] theorem k_gc56 : kn.gc 56 = true := rfl
@[simp] theorem k_ali56 : kn.ali 56 = false := rfl
/-! 57: slices.IndexFunc[[]int,int] -/
@[simp] theorem c_keep57 (r : Nat) : cf.keep 57 r = tab57.getD r [] := rfl
@[simp] theorem c_pure57 : cf.pure 57 = true := rfl
@[simp] theorem c_pack57 : cf.pack 57 = .whole := rfl
@[simp] theorem c_wary57 (r : Nat) : cf.wary 57 r = false := rfl
@[simp] theorem c_clone57 : cf.clone 57 = none := rfl
@[simp] theorem k_out57 : kn.out 57 = .frz [] := rfl
@[simp] theorem k_args57 : kn.args 57 = [[some (.i .i64)]] := rfl
@[simp] theorem k_nils57 : kn.nils 57 = fun _ => none := rfl
@[simp] theorem k_gc57 : kn.gc 57 = true := rfl
@[simp] theorem k_ali57 : kn.ali 57 = false := rfl
/-! 58: cmp.isNaN[int] -/
@[simp] theorem c_keep58 (r : Nat) : cf.keep 58 r = tab58.getD r [] := rfl
@[simp] theorem c_pure58 : cf.pure 58 = true := rfl
@[simp] theorem c_pack58 : cf.pack 58 = .whole := rfl
@[simp] theorem c_wary58 (r : Nat) : cf.wary 58 r = false := rfl
@[simp] theorem c_clone58 : cf.clone 58 = none := rfl
@[simp] theorem k_out58 : kn.out 58 = .frz [] := rfl
@[simp] theorem k_args58 : kn.args 58 = [] := rfl
@[simp] theorem k_nils58 : kn.nils 58 = fun _ => none := rfl
@[simp] theorem k_gc58 : kn.gc 58 = true := rfl
@[simp] theorem k_ali58 : kn.ali 58 = false := rfl
theorem kept0 : ((impL ++ aliL).all fun f => (match kn.out f with | .inl => true | _ => false) && !kn.gc f) = true := by kernel_rfl
theorem kept1 (f : FuncId) : (cf.pure f = true ∧ kn.ali f = false) ∨ (kn.out f = .inl ∧ kn.gc f = false) := by
  cases hb : (impL ++ aliL).contains f with
  | false =>
    have h1 : ¬ f ∈ impL ++ aliL := fun h => by rw [List.contains_iff_mem.2 h] at hb; simp at hb
    rw [List.mem_append] at h1
    refine .inl ⟨?_, ?_⟩
    · show (!impL.contains f) = true
      cases h2 : impL.contains f with
      | false => rfl
      | true => exact absurd (.inl (List.contains_iff_mem.1 h2)) h1
    · show aliL.contains f = false
      cases h2 : aliL.contains f with
      | false => rfl
      | true => exact absurd (.inr (List.contains_iff_mem.1 h2)) h1
  | true =>
    have h := List.all_eq_true.1 kept0 f (List.contains_iff_mem.1 hb)
    rw [Bool.and_eq_true] at h
    refine .inr ⟨?_, by simpa using h.2⟩
    cases ho : kn.out f with
    | inl => rfl
    | own ks => rw [ho] at h; simp at h
    | frz ks => rw [ho] at h; simp at h
theorem kept : Kept kn where
  gc f hg := (kept1 f).resolve_right fun h => by rw [h.2] at hg; simp at hg
  out f := (kept1 f).symm.imp (fun h ks e => by rw [h.1] at e; cases e) id
  own f := (kept1 f).symm.imp (fun h ks e => by rw [h.1] at e; cases e) id
/-- What the proof of the engine asks of a function. -/
def staticF (cf : Cfg) (f : FuncId) (m : PM) (fn : Func) : Bool := match m with
  | .no => true
  | _ => match fn.body with
    | some c => codeOk cf f fn.ntmps c && !(fn.name == "runtime.NumGoroutine")
    | none => true
theorem static_all : ((List.range Tryd.prog.funcs.size).all fun f => Tryd.prog.funcs[f]?.all (staticF cf f (cf.pack f))) = true := by kernel_rfl
theorem static : Static Tryd.prog cf := fun f fn c hf hb hno => by
  have h := List.all_eq_true.1 static_all f (List.mem_range.2 (Array.getElem?_eq_some_iff.1 hf).1)
  rw [hf] at h
  simp only [Option.all_some] at h
  unfold staticF at h
  split at h
  · rename_i e; exact absurd e hno
  · rw [hb] at h; simpa using h
@[simp] theorem c_rounds : cf.rounds = 4294967296 := rfl
end Go.Eng
