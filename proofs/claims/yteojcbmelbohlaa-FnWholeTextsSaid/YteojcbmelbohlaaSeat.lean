/- The value engine: the tables of this seat: types, and of each function what its regions and its calls leave. Printed by a program of this session. No conditions. -/
import Derived.Test.YteojcbmelbohlaaProg
import Derived.Test.YteojcbmelbohlaaVb
import Derived.KernelRfl
set_option linter.unusedVariables false
set_option linter.unusedSimpArgs false
namespace Go.Eng
open Go.Proofs
set_option maxRecDepth 100000
@[simp] theorem ty_u_3 : Try.prog.underlying 3 = some (.int .i64) := by kernel_rfl
@[simp] theorem ty_k_3 : kindOf Try.prog 3 = some .i64 := by kernel_rfl
@[simp] theorem ty_a_3 : aggT Try.prog 3 = some false := by kernel_rfl
@[simp] theorem ty_s_3 : sizeT Try.prog 3 = some 1 := by kernel_rfl
@[simp] theorem ty_b_3 : bytesT Try.prog 3 = some 8 := by kernel_rfl
@[simp] theorem ty_z_3 : zeroT Try.prog 3 = some (.c (.int .i64 0)) := by kernel_rfl
@[simp] theorem ty_u_4 : Try.prog.underlying 4 = some (.bool) := by kernel_rfl
@[simp] theorem ty_k_4 : kindOf Try.prog 4 = none := by kernel_rfl
@[simp] theorem ty_a_4 : aggT Try.prog 4 = some false := by kernel_rfl
@[simp] theorem ty_s_4 : sizeT Try.prog 4 = some 1 := by kernel_rfl
@[simp] theorem ty_b_4 : bytesT Try.prog 4 = some 1 := by kernel_rfl
@[simp] theorem ty_z_4 : zeroT Try.prog 4 = some (.c (.bool false)) := by kernel_rfl
@[simp] theorem ty_u_5 : Try.prog.underlying 5 = some (.int .u8) := by kernel_rfl
@[simp] theorem ty_k_5 : kindOf Try.prog 5 = some .u8 := by kernel_rfl
@[simp] theorem ty_a_5 : aggT Try.prog 5 = some false := by kernel_rfl
@[simp] theorem ty_s_5 : sizeT Try.prog 5 = some 1 := by kernel_rfl
@[simp] theorem ty_b_5 : bytesT Try.prog 5 = some 1 := by kernel_rfl
@[simp] theorem ty_z_5 : zeroT Try.prog 5 = some (.c (.int .u8 0)) := by kernel_rfl
@[simp] theorem ty_u_9 : Try.prog.underlying 9 = some (.string) := by kernel_rfl
@[simp] theorem ty_k_9 : kindOf Try.prog 9 = none := by kernel_rfl
@[simp] theorem ty_a_9 : aggT Try.prog 9 = some false := by kernel_rfl
@[simp] theorem ty_s_9 : sizeT Try.prog 9 = some 1 := by kernel_rfl
@[simp] theorem ty_b_9 : bytesT Try.prog 9 = some 16 := by kernel_rfl
@[simp] theorem ty_z_9 : zeroT Try.prog 9 = some (.c (.str ⟨#[]⟩)) := by kernel_rfl
@[simp] theorem ty_u_22 : Try.prog.underlying 22 = some (.slice 5) := by kernel_rfl
@[simp] theorem ty_k_22 : kindOf Try.prog 22 = none := by kernel_rfl
@[simp] theorem ty_a_22 : aggT Try.prog 22 = some false := by kernel_rfl
@[simp] theorem ty_s_22 : sizeT Try.prog 22 = some 1 := by kernel_rfl
@[simp] theorem ty_b_22 : bytesT Try.prog 22 = some 24 := by kernel_rfl
@[simp] theorem ty_e_22 : elemS Try.prog 22 = some 5 := by kernel_rfl
@[simp] theorem ty_z_22 : zeroT Try.prog 22 = some (.c (.nil)) := by kernel_rfl
@[simp] theorem ty_u_24 : Try.prog.underlying 24 = some (.slice 3) := by kernel_rfl
@[simp] theorem ty_k_24 : kindOf Try.prog 24 = none := by kernel_rfl
@[simp] theorem ty_a_24 : aggT Try.prog 24 = some false := by kernel_rfl
@[simp] theorem ty_s_24 : sizeT Try.prog 24 = some 1 := by kernel_rfl
@[simp] theorem ty_b_24 : bytesT Try.prog 24 = some 24 := by kernel_rfl
@[simp] theorem ty_e_24 : elemS Try.prog 24 = some 3 := by kernel_rfl
@[simp] theorem ty_z_24 : zeroT Try.prog 24 = some (.c (.nil)) := by kernel_rfl
@[simp] theorem ty_k_26 : kindOf Try.prog 26 = none := by kernel_rfl
@[simp] theorem ty_a_26 : aggT Try.prog 26 = some true := by kernel_rfl
@[simp] theorem ty_s_26 : sizeT Try.prog 26 = some 1 := by kernel_rfl
@[simp] theorem ty_b_26 : bytesT Try.prog 26 = some 24 := by kernel_rfl
@[simp] theorem ty_z_26 : zeroT Try.prog 26 = some (.agg [.nil]) := by kernel_rfl
@[simp] theorem ty_f_26_0 : fieldOf Try.prog 26 0 = some (0, 1, false) := by kernel_rfl
@[simp] theorem ty_p_26 : placesB Try.prog 26 = some [(0, 1)] := by kernel_rfl
@[simp] theorem ty_k_42 : kindOf Try.prog 42 = none := by kernel_rfl
@[simp] theorem ty_a_42 : aggT Try.prog 42 = some true := by kernel_rfl
@[simp] theorem ty_s_42 : sizeT Try.prog 42 = some 2 := by kernel_rfl
@[simp] theorem ty_b_42 : bytesT Try.prog 42 = some 32 := by kernel_rfl
@[simp] theorem ty_z_42 : zeroT Try.prog 42 = some (.agg [.bool false, .nil]) := by kernel_rfl
@[simp] theorem ty_f_42_0 : fieldOf Try.prog 42 0 = some (0, 1, false) := by kernel_rfl
@[simp] theorem ty_f_42_1 : fieldOf Try.prog 42 1 = some (1, 1, true) := by kernel_rfl
@[simp] theorem ty_p_42 : placesB Try.prog 42 = some [(0, 1), (1, 1)] := by kernel_rfl
@[simp] theorem ty_k_52 : kindOf Try.prog 52 = none := by kernel_rfl
@[simp] theorem ty_a_52 : aggT Try.prog 52 = some true := by kernel_rfl
@[simp] theorem ty_s_52 : sizeT Try.prog 52 = some 1 := by kernel_rfl
@[simp] theorem ty_b_52 : bytesT Try.prog 52 = some 24 := by kernel_rfl
@[simp] theorem ty_z_52 : zeroT Try.prog 52 = some (.agg [.nil]) := by kernel_rfl
@[simp] theorem ty_f_52_0 : fieldOf Try.prog 52 0 = some (0, 1, false) := by kernel_rfl
@[simp] theorem ty_p_52 : placesB Try.prog 52 = some [(0, 1)] := by kernel_rfl
@[simp] theorem ty_k_64 : kindOf Try.prog 64 = none := by kernel_rfl
@[simp] theorem ty_a_64 : aggT Try.prog 64 = some true := by kernel_rfl
@[simp] theorem ty_s_64 : sizeT Try.prog 64 = some 2 := by kernel_rfl
@[simp] theorem ty_b_64 : bytesT Try.prog 64 = some 32 := by kernel_rfl
@[simp] theorem ty_z_64 : zeroT Try.prog 64 = some (.agg [.bool false, .nil]) := by kernel_rfl
@[simp] theorem ty_f_64_0 : fieldOf Try.prog 64 0 = some (0, 1, false) := by kernel_rfl
@[simp] theorem ty_f_64_1 : fieldOf Try.prog 64 1 = some (1, 1, true) := by kernel_rfl
@[simp] theorem ty_p_64 : placesB Try.prog 64 = some [(0, 1), (1, 1)] := by kernel_rfl
@[simp] theorem ty_k_72 : kindOf Try.prog 72 = none := by kernel_rfl
@[simp] theorem ty_a_72 : aggT Try.prog 72 = some false := by kernel_rfl
@[simp] theorem ty_s_72 : sizeT Try.prog 72 = some 1 := by kernel_rfl
@[simp] theorem ty_b_72 : bytesT Try.prog 72 = some 8 := by kernel_rfl
@[simp] theorem ty_u_82 : Try.prog.underlying 82 = some (.pointer 115) := by kernel_rfl
@[simp] theorem ty_k_82 : kindOf Try.prog 82 = none := by kernel_rfl
@[simp] theorem ty_a_82 : aggT Try.prog 82 = some false := by kernel_rfl
@[simp] theorem ty_s_82 : sizeT Try.prog 82 = some 1 := by kernel_rfl
@[simp] theorem ty_b_82 : bytesT Try.prog 82 = some 8 := by kernel_rfl
@[simp] theorem ty_k_115 : kindOf Try.prog 115 = none := by kernel_rfl
@[simp] theorem ty_a_115 : aggT Try.prog 115 = some true := by kernel_rfl
@[simp] theorem ty_s_115 : sizeT Try.prog 115 = some 3 := by kernel_rfl
@[simp] theorem ty_b_115 : bytesT Try.prog 115 = some 40 := by kernel_rfl
@[simp] theorem ty_z_115 : zeroT Try.prog 115 = some (.agg [.nil, .int .i64 0, .int .i64 0]) := by kernel_rfl
@[simp] theorem ty_f_115_0 : fieldOf Try.prog 115 0 = some (0, 1, false) := by kernel_rfl
@[simp] theorem ty_f_115_1 : fieldOf Try.prog 115 1 = some (1, 1, false) := by kernel_rfl
@[simp] theorem ty_f_115_2 : fieldOf Try.prog 115 2 = some (2, 1, false) := by kernel_rfl
@[simp] theorem ty_p_115 : placesB Try.prog 115 = some [(0, 1), (1, 1), (2, 1)] := by kernel_rfl
@[simp] theorem ty_k_120 : kindOf Try.prog 120 = none := by kernel_rfl
@[simp] theorem ty_a_120 : aggT Try.prog 120 = some false := by kernel_rfl
@[simp] theorem ty_s_120 : sizeT Try.prog 120 = some 1 := by kernel_rfl
@[simp] theorem ty_b_120 : bytesT Try.prog 120 = some 8 := by kernel_rfl
@[simp] theorem ty_u_132 : Try.prog.underlying 132 = some (.int .u64) := by kernel_rfl
@[simp] theorem ty_k_132 : kindOf Try.prog 132 = some .u64 := by kernel_rfl
@[simp] theorem ty_a_132 : aggT Try.prog 132 = some false := by kernel_rfl
@[simp] theorem ty_s_132 : sizeT Try.prog 132 = some 1 := by kernel_rfl
@[simp] theorem ty_b_132 : bytesT Try.prog 132 = some 8 := by kernel_rfl
@[simp] theorem ty_z_132 : zeroT Try.prog 132 = some (.c (.int .u64 0)) := by kernel_rfl
@[simp] theorem ty_u_140 : Try.prog.underlying 140 = some (.int .u32) := by kernel_rfl
@[simp] theorem ty_k_140 : kindOf Try.prog 140 = some .u32 := by kernel_rfl
@[simp] theorem ty_a_140 : aggT Try.prog 140 = some false := by kernel_rfl
@[simp] theorem ty_s_140 : sizeT Try.prog 140 = some 1 := by kernel_rfl
@[simp] theorem ty_b_140 : bytesT Try.prog 140 = some 4 := by kernel_rfl
@[simp] theorem ty_z_140 : zeroT Try.prog 140 = some (.c (.int .u32 0)) := by kernel_rfl
@[simp] theorem ty_u_142 : Try.prog.underlying 142 = some (.int .u64) := by kernel_rfl
@[simp] theorem ty_k_142 : kindOf Try.prog 142 = some .u64 := by kernel_rfl
@[simp] theorem ty_a_142 : aggT Try.prog 142 = some false := by kernel_rfl
@[simp] theorem ty_s_142 : sizeT Try.prog 142 = some 1 := by kernel_rfl
@[simp] theorem ty_b_142 : bytesT Try.prog 142 = some 8 := by kernel_rfl
@[simp] theorem ty_z_142 : zeroT Try.prog 142 = some (.c (.int .u64 0)) := by kernel_rfl
def tab3 : List (List Nat) := [[0], [0, 26], [2], [0, 3, 4], [3, 4, 5], [3, 4, 5, 7, 8], [3, 4, 5, 7, 8, 9, 10], [3, 4, 5, 7, 8, 9, 10, 11, 12], [3, 4, 5, 7, 8, 9, 10, 11, 12, 13, 14], [3, 4, 5, 7, 8, 12, 81], [2], [3, 4, 5, 7, 8, 12, 89], [2], [3, 4, 5, 7, 8, 15, 16], [3, 4, 5, 7, 8, 121], [2], [3, 4, 5, 8, 17, 18], [4, 5, 8, 17, 18, 19, 20], [8, 17, 18, 19, 20, 21, 22], [8, 17, 18, 20, 22, 23, 24], [2]]
def tab4 : List (List Nat) := [[0], [0, 3], [0, 3, 4], [0, 3, 4, 15], [0, 3, 4, 5, 6], [0, 33], [2], [0, 36], [2], [7], [7, 8, 9], [7, 8, 45], [2], [2]]
def tab5 : List (List Nat) := [[0], [3, 4], [3, 4, 5, 6], [3, 4, 5, 6, 7, 8], [3, 4, 5, 6, 7, 8, 9, 10], [3, 4, 5, 6, 7, 8, 9, 10, 11, 12], [3, 4, 5, 6, 7, 8, 9, 10, 11, 12, 54], [2], [3, 4, 5, 6, 7, 8, 9, 10, 11, 12, 13, 14], [3, 4, 5, 6, 7, 8, 9, 10, 11, 12, 13, 14, 15, 16], [2]]
def tab6 : List (List Nat) := [[1], [1, 3], [1, 3], [1, 15], [2], [1, 4], [1, 4, 5], [1, 4, 5, 6], [1, 4, 5, 6, 26], [2], [1, 4, 5, 6, 31], [2], [1, 4, 5, 6, 7], [1, 4, 6, 7], [1, 4, 6, 42], [2], [1, 4, 6, 8], [1, 4, 6, 8], [1, 4, 6, 8, 9], [1, 4, 6, 8, 9], [1, 4, 6, 8, 9, 50], [2], [1, 4, 6, 8, 53], [2], [4, 6, 8, 10], [6, 8, 60], [2], [6, 8, 9], [8, 9], [8, 9, 65], [2], [68], [2], [2]]
def tab7 : List (List Nat) := [[0], [3], [3, 4], [3, 4, 17], [2], [3, 4, 5, 6], [3, 5, 6, 7, 8], [3, 5, 6, 8, 9, 10], [2]]
def tab8 : List (List Nat) := [[0], [0, 13], [2], [3, 4], [3, 4, 5, 6, 7], [3, 4, 5, 6, 27], [2], [3, 4, 6, 8, 9], [3, 4, 6, 9, 10, 11], [2]]
def tab9 : List (List Nat) := [[0], [3, 4], [3, 4, 5, 6, 7], [3, 4, 5, 6, 7, 38], [2], [3, 4, 5, 6, 42], [2], [3, 4, 6, 8, 9], [3, 4, 6, 9, 10, 11], [3, 4, 6, 10, 65], [2], [2]]
def tab10 : List (List Nat) := [[2, 3], [2, 3, 5], [2, 3, 5], [2, 3, 5, 24], [4], [2, 3, 5], [2, 3, 29], [4], [2, 3, 6, 7, 8], [2, 3, 6, 7, 8, 9], [2, 3, 6, 7, 8, 9, 10], [2, 3, 6, 7, 8, 9, 10, 11, 12, 13], [2, 3, 6, 7, 8, 9, 10, 11, 12, 13, 64], [4], [2, 3, 6, 7, 8, 9, 10, 11, 12, 13, 69], [4], [2, 3, 6, 7, 8, 9, 10, 11, 12, 13, 74], [4], [2, 3, 6, 7, 8, 9, 10, 11, 12, 13, 14], [2, 3, 6, 7, 8, 10, 11, 12, 13, 14], [2, 3, 6, 7, 8, 11, 12, 13, 14], [2, 3, 6, 7, 8, 11, 12, 99], [4], [2, 3, 6, 7, 8, 11, 12, 15], [2, 3, 6, 7, 8, 11, 12, 15], [2, 3, 6, 7, 8, 11, 12, 15], [2, 3, 6, 7, 8, 11, 12, 15, 16], [2, 3, 6, 7, 8, 11, 12, 15, 16], [2, 3, 6, 7, 8, 11, 12, 15, 16, 110], [4], [2, 3, 6, 7, 8, 11, 12, 15, 16], [2, 3, 6, 7, 8, 11, 12, 15, 16, 115], [4], [2, 3, 6, 7, 8, 11, 12, 15, 118], [4], [6, 7, 8, 11, 12, 15, 17, 18, 19], [11, 12, 15, 142], [4], [11, 12, 15, 16], [12, 15, 16], [12, 15, 16, 147], [4], [15, 16], [15, 16, 152], [4], [155], [4], [4]]
def tab12 : List (List Nat) := [[0], [3], [3, 4], [3, 4, 13], [2], [3, 4, 5, 6], [2]]
def tab13 : List (List Nat) := [[0], [0, 15], [2], [0, 3, 4], [0, 3, 4, 5], [0, 3, 4, 5, 6, 7], [0, 3, 4, 5, 6, 7, 37], [2], [0, 3, 4, 5, 6, 7, 42], [2], [0, 3, 4, 5, 6, 7, 8], [0, 3, 4, 6, 7, 8], [0, 3, 4, 6, 58], [2], [0, 3, 4, 6, 9], [0, 3, 4, 6, 9], [0, 3, 4, 6, 9, 10], [0, 3, 4, 6, 9, 10], [0, 3, 4, 6, 9, 10, 66], [2], [0, 3, 4, 6, 9, 69], [2], [3, 4, 6, 9, 11, 12], [6, 9, 84], [2], [6, 9, 10], [9, 10], [9, 10, 89], [2], [92], [2], [2]]
def tab14 : List (List Nat) := [[], [1, 2], [0]]
def tab15 : List (List Nat) := [[0, 2, 3], [2, 3]]
def tab16 : List (List Nat) := [[0, 1], [4]]
def tab17 : List (List Nat) := [[2, 3, 4], [2, 3, 4, 9], [4, 5], [4, 5]]
def tab18 : List (List Nat) := [[2, 3, 4], [2, 3, 4, 9], [4, 5], [4, 5]]
def tab19 : List (List Nat) := [[2, 3], [2, 3, 12], [4], [2, 3, 5], [2, 3, 5, 17], [2, 3, 5], [2, 3, 5, 30], [4], [4]]
def tab20 : List (List Nat) := [[1], [1, 7], [2], [1, 3], [1, 3, 12], [1, 3], [1, 3, 28], [2], [2]]
def tab21 : List (List Nat) := [[1], [2]]
def tab22 : List (List Nat) := [[2, 3, 4], [2, 3, 4, 17], [4, 5], [4, 5]]
def tab23 : List (List Nat) := [[0, 2], [2]]
def tab24 : List (List Nat) := [[1], [1, 5], [2], [2]]
def tab25 : List (List Nat) := [[0, 2], [0, 2, 22], [2, 3], [2, 3]]
def tab26 : List (List Nat) := [[0], [3], [3, 4], [3, 4, 11], [3, 4], [3, 4, 20], [3, 4], [4, 25], [4, 28], [4], [2]]
def tab27 : List (List Nat) := [[0, 2], [2, 3], [2]]
def tab28 : List (List Nat) := [[0, 1], [4]]
def tab29 : List (List Nat) := [[0, 2, 3], [2, 3]]
def tab30 : List (List Nat) := [[2, 3, 4], [2, 3, 4, 9], [4, 5], [4, 5]]
def tab31 : List (List Nat) := [[2, 3, 4], [2, 3, 4, 9], [4, 5], [4, 5]]
def tab32 : List (List Nat) := [[1, 2], [1, 2, 5], [2], [2]]
def tab33 : List (List Nat) := [[1], [2]]
def tab34 : List (List Nat) := [[1], [2]]
def tab35 : List (List Nat) := [[2, 3], [4]]
def tab36 : List (List Nat) := [[0, 2], [2, 3], [2]]
def tab37 : List (List Nat) := [[2, 3, 4], [2, 3, 4, 9], [4, 5], [4, 5]]
def tab38 : List (List Nat) := [[2, 3], [2, 3, 8], [4], [4]]
def tab39 : List (List Nat) := [[1, 2], [1], [1, 10], [4], [4]]
def tab40 : List (List Nat) := [[1, 2], [1, 2, 5], [2], [2]]
def tab41 : List (List Nat) := [[1, 2], [1, 2, 3], [2, 3], [2]]
def tab42 : List (List Nat) := [[1, 2], [1, 2, 5], [2], [2]]
def tab43 : List (List Nat) := [[2, 3], [10], [4], [4]]
def tab44 : List (List Nat) := [[1, 2], [1], [4]]
def tab45 : List (List Nat) := [[1, 2], [1], [1, 10], [4], [4]]
def tab46 : List (List Nat) := [[0, 2], [2, 3], [2, 3, 4], [2, 4, 20], [2], [2]]
def tab47 : List (List Nat) := [[2, 3], [2, 3, 8], [4], [4]]
def tab48 : List (List Nat) := [[0, 2, 3], [2, 3, 4], [2, 3, 4, 5], [2, 3, 4, 5, 6], [2, 3, 5, 6, 24], [2, 3, 5, 6, 7, 8], [2, 3, 5, 6, 7, 31], [2, 3], [2, 3]]
def tab49 : List (List Nat) := [[2, 3, 4, 5], [2, 3, 4, 5, 18], [4, 5, 6], [4, 5, 7, 8], [4, 5, 6]]
def tab50 : List (List Nat) := [[0, 2, 3], [2, 3]]
def tab51 : List (List Nat) := [[2, 3, 4, 5], [2, 3, 4, 5, 21], [4, 5, 6], [2, 3, 4, 5, 7, 8], [2, 3, 4, 5, 7, 8, 40], [2, 3, 4, 5, 7, 8], [4, 5, 8, 9, 10], [4, 5, 8, 9, 60], [4, 5, 6], [4, 5, 6]]
def tab52 : List (List Nat) := [[1, 2], [1], [1, 10], [4], [4]]
def tab53 : List (List Nat) := [[2, 3, 4, 5], [2, 3, 4, 5, 25], [4, 5, 6], [4, 5, 7, 8], [4, 5, 8, 9, 10], [4, 5, 8, 9, 40], [4, 5, 6], [4, 5, 6]]
def tab54 : List (List Nat) := [[1, 2], [1, 2, 3], [1, 2, 3], [2, 3], [2]]
def tab55 : List (List Nat) := [[2, 3], [2, 3, 9], [4], [15], [4], [4]]
def tab56 : List (List Nat) := [[1, 2], [1], [4]]
def tab57 : List (List Nat) := [[1, 2], [1], [1, 10], [4], [4]]
def tab59 : List (List Nat) := [[0], [0, 3], [3, 7, 8, 9], [3, 7, 8, 9, 10], [3, 5, 7, 8, 9], [3, 7, 8, 9], [3, 7, 8, 9], [2]]
def tab61 : List (List Nat) := [[0, 2], [0, 2, 8], [2, 3], [2, 4, 5], [2, 4, 5, 18], [2, 3], [2, 3]]
def tab62 : List (List Nat) := [[0], [0, 7], [2], [3], [2]]
def tab63 : List (List Nat) := [[0], [0, 5, 6, 7], [0, 5, 6, 7, 8], [0, 4, 5, 6, 7], [0, 4, 5, 6, 7, 15], [2], [0, 5, 6, 7], [2]]
def tab64 : List (List Nat) := [[0], [2]]
def tab65 : List (List Nat) := [[0], [3], [3, 4], [3, 4], [2], [3, 7], [3, 7], [7], [2], [2]]
def tab66 : List (List Nat) := [[0, 2], [2]]
def tab67 : List (List Nat) := [[1], [1, 5], [2], [2]]
def tab68 : List (List Nat) := [[0, 2], [0, 2, 8], [2, 3], [2, 4], [2, 4, 5], [2, 4, 5, 26], [2, 4, 5], [2, 4, 5], [2, 4, 5, 35], [2, 3], [2, 3]]
def tab69 : List (List Nat) := [[0], [0, 3], [0, 3, 4], [0, 3, 4, 11], [0, 3, 4], [0, 3, 4], [2]]
def tab70 : List (List Nat) := [[0, 1], [0, 1, 10], [4], [0, 1, 5], [0, 1, 5, 14], [0, 1, 5], [0, 1, 5, 25], [4], [4]]
def tab71 : List (List Nat) := [[0, 1], [0, 1, 5], [0, 1, 5, 9], [0, 1, 5], [0, 1, 5], [0, 1, 5], [4]]
def tab72 : List (List Nat) := [[0, 2, 3], [2, 3, 4], [2, 3, 4, 5], [2, 3, 4, 5, 11], [2, 3], [2, 3]]
def tab73 : List (List Nat) := [[2, 3], [4]]
def tab74 : List (List Nat) := [[0, 2], [0, 2, 6], [2, 3], [2, 3]]
def tab75 : List (List Nat) := [[0, 1], [0, 1, 13], [0, 1], [0, 1, 5], [0, 1, 5, 6], [1, 5, 6, 20, 21, 22], [1, 5, 6, 20, 21, 22, 23], [1, 5, 6, 7, 8, 20, 21, 22], [1, 5, 6, 7, 20, 21, 22], [1, 5, 6, 7, 20, 21, 22, 33], [1, 5, 6, 20, 21, 22], [1, 5, 6, 20, 21, 22], [1, 5, 6, 20, 21, 22], [1, 5, 6, 20, 21, 22], [4]]
def tab76 : List (List Nat) := [[0, 1], [0, 1, 5], [1, 5, 17, 18, 19], [1, 5, 17, 18, 19, 20], [1, 5, 6, 7, 17, 18, 19], [1, 5, 6, 7, 8, 17, 18, 19], [1, 5, 6, 7, 8, 17, 18, 19, 24, 25, 26], [1, 5, 6, 7, 8, 17, 18, 19, 24, 25, 26, 27], [1, 5, 6, 7, 8, 9, 10, 17, 18, 19, 24, 25, 26], [1, 5, 6, 7, 8, 9, 17, 18, 19, 24, 25, 26], [1, 5, 6, 7, 8, 17, 18, 19, 24, 25, 26], [1, 5, 6, 7, 8, 17, 18, 19, 24, 25, 26], [1, 5, 6, 7, 8, 17, 18, 19, 24, 25, 26], [1, 5, 17, 18, 19], [1, 5, 17, 18, 19], [4]]
def tab77 : List (List Nat) := [[0, 3], [4]]
def tab78 : List (List Nat) := [[0], [2]]
def tab79 : List (List Nat) := [[0, 1, 2], [6]]
def tab80 : List (List Nat) := [[0, 1], [0, 1, 10], [4], [0, 1, 5], [0, 1, 5, 20], [0, 1, 5], [0, 1, 5, 31], [4], [4]]
def tab81 : List (List Nat) := [[0, 1], [0, 1, 5], [0, 1, 5, 6], [1, 5, 6, 12, 13, 14], [1, 5, 6, 12, 13, 14, 15], [1, 5, 6, 7, 8, 12, 13, 14], [1, 5, 7, 8, 12, 13, 14], [1, 5, 7, 8, 12, 13, 14, 25], [1, 5, 8, 12, 13, 14], [1, 5, 6, 8, 12, 13, 14], [1, 5, 6, 8, 12, 13, 14, 33], [1, 5, 8, 12, 13, 14], [1, 5, 6, 8, 12, 13, 14], [1, 5, 6, 12, 13, 14], [1, 5, 6, 12, 13, 14], [4]]
def tab82 : List (List Nat) := [[0, 2], [0, 2, 3], [0, 2, 3, 8], [2], [2, 3, 11], [2, 3, 15], [2, 3], [2, 3, 11, 21], [2, 3], [2, 3, 11, 28], [2, 3], [2, 3, 35], [2, 3], [2]]
def tab83 : List (List Nat) := [[0], [0, 3], [0, 3, 4], [0, 3, 4, 15], [0, 3, 4], [0, 3, 4], [2]]
def tab84 : List (List Nat) := [[0], [0, 8], [2], [0, 3], [0, 3, 13], [3, 4, 5], [3, 4, 5, 19], [3, 4, 5, 19, 20], [3, 4, 5, 19], [3, 4, 5, 19], [3, 4, 5, 19], [0, 3], [3, 38], [3], [3], [2]]
def tab85 : List (List Nat) := [[0], [2]]
def tab86 : List (List Nat) := [[0], [0, 3], [3, 6, 7, 8], [3, 6, 7, 8, 9], [3, 5, 6, 7, 8], [3, 6, 7, 8], [3, 6, 7, 8], [2]]
def tab87 : List (List Nat) := [[1], [1, 11], [2], [1, 3], [1, 3, 17], [1, 3, 4, 5], [1, 3, 4], [1, 3], [3, 6], [3, 6, 7], [3, 6, 7, 34], [3, 6, 7], [3, 6, 7], [2]]
def tab88 : List (List Nat) := [[0, 2], [0, 2, 3], [0, 2, 3, 4], [0, 2, 3, 4, 5], [0, 2, 3, 4, 5, 10], [0, 2, 3, 4, 5], [0, 2, 3, 4, 5, 14], [0, 2, 3, 4, 5], [0, 2, 3, 4, 5, 14, 20], [0, 2, 3, 4, 5], [0, 2, 3, 4, 5, 25], [0, 2, 3, 4, 5], [0, 2, 3, 31], [2], [2]]
def tab89 : List (List Nat) := [[0, 1], [4]]
def tab90 : List (List Nat) := [[0, 1], [4]]
def tab91 : List (List Nat) := [[0, 2], [0, 2, 5], [2, 3], [2, 3]]
def tab92 : List (List Nat) := [[0, 2, 3], [2, 3, 4], [2, 3, 4, 5], [2, 3, 4, 5, 11], [2, 3], [2, 3]]
def tab93 : List (List Nat) := [[2, 3], [4]]
def tab94 : List (List Nat) := [[0, 1, 4], [0, 1, 4, 6, 7], [0, 1, 4, 6, 14], [4, 5], [4, 5]]
def tab95 : List (List Nat) := [[0, 1, 2, 3], [0, 1, 2, 3, 10], [8, 9], [0, 1, 2, 3, 18], [8, 9], [8, 9]]
def tab96 : List (List Nat) := [[1, 2], [1, 2, 3], [2, 3], [2]]
def tab97 : List (List Nat) := [[0], [0, 4], [2], [2]]
def tab98 : List (List Nat) := [[0, 1, 2, 3], [0, 1, 2, 3, 9], [8], [0, 1, 3, 15], [8], [1, 3, 21], [8], [8]]
def tab99 : List (List Nat) := [[0, 1], [1], [1, 10], [4], [4]]
def tab100 : List (List Nat) := [[1, 2], [1, 2, 10], [2], [1, 2, 3], [1, 2, 3, 4], [1, 2, 3, 6], [1, 2, 3, 6, 31], [2], [1, 2, 3]]
def tab101 : List (List Nat) := [[0], [0, 3], [0, 3, 4], [0, 3, 4, 11], [0, 3, 4], [0, 3, 4], [2]]
def tab102 : List (List Nat) := [[0], [0, 9], [2], [0, 3], [0, 3, 4], [0, 3, 6], [0, 3, 6, 29], [2], [0, 3]]
def tab103 : List (List Nat) := [[0, 1], [0, 1, 10], [4], [0, 1, 5], [0, 1, 5, 14], [0, 1, 5], [0, 1, 5, 25], [4], [4]]
def tab104 : List (List Nat) := [[0, 1], [0, 1, 5], [0, 1, 5, 9], [0, 1, 5], [0, 1, 5], [0, 1, 5], [4]]
def tab105 : List (List Nat) := [[0, 1], [0, 1, 5], [0, 1, 5, 9], [0, 1, 5], [0, 1, 5, 17], [4], [0, 1, 5], [4]]
def tab106 : List (List Nat) := [[2, 3, 4], [2, 3, 4, 5], [2, 3, 4, 5, 6], [2, 3, 4, 5, 6, 22], [2, 3, 4, 5, 6], [2, 3, 4, 5, 6, 7], [2, 3, 4, 5, 6, 7, 8], [2, 3, 4, 5, 6, 7, 8, 29], [2, 3, 4, 5, 6, 7, 8], [2, 3, 4, 5, 6, 8, 9], [2, 3, 4, 5, 6, 8, 9], [2, 3, 4, 5, 6, 7, 8], [2, 3, 4, 5, 6], [4]]
def tab107 : List (List Nat) := [[2, 3, 4], [2, 3, 4, 13], [4, 5], [4, 5]]
def tab108 : List (List Nat) := [[0, 1], [0, 1, 17], [4, 5], [0, 1, 22], [6, 7], [4, 5], [0, 1, 8], [0, 1, 8, 9], [0, 1, 8, 9, 10], [0, 1, 8, 9, 10], [8, 9, 10, 11], [8, 9, 10, 11, 12], [8, 9, 10, 11, 12, 68], [8, 9, 10, 11, 12], [8, 9, 10, 11, 12, 13], [8, 9, 10, 11, 12, 13, 79], [8, 9, 10, 11, 12, 13], [8, 9, 10, 11, 12, 13], [8, 9, 10, 11, 12], [4, 5]]
def tab109 : List (List Nat) := [[0], [0, 3], [0, 3, 5], [0, 3], [0, 3], [2]]
def tab110 : List (List Nat) := [[2, 3, 4, 5], [2, 3, 4, 5, 6, 7], [2, 3, 4, 5, 6, 7, 24], [4, 5], [4, 5]]
def tab111 : List (List Nat) := [[1, 2], [1, 2, 8], [2, 3], [2, 3]]
def tab113 : List (List Nat) := [[0], [0, 3], [2], [0, 12], [2], [0, 18], [2], [0, 24], [2], [2]]
def tab115 : List (List Nat) := [[0, 2], [2]]
def tab116 : List (List Nat) := [[0], [0, 5], [2], [0, 6], [2], [0, 12], [2], [0, 24], [2], [2]]
def tab117 : List (List Nat) := [[0], [0, 18], [2, 3], [2, 3]]
def tab118 : List (List Nat) := [[0], [0, 4], [0, 4, 5], [0, 4, 5, 10], [0, 4, 5, 6, 7], [0, 4, 5, 6, 7], [0, 4, 5, 7], [0, 4, 5], [2, 3]]
def tab119 : List (List Nat) := [[0, 1], [4]]
def tab120 : List (List Nat) := [[0, 2], [0, 2, 3], [0, 2, 3, 7], [0, 2, 3, 9], [2], [2, 3], [2]]
def tab121 : List (List Nat) := [[0, 1], [1, 5], [4], [4]]
def tab122 : List (List Nat) := [[0], [3], [3, 4], [3, 4, 5], [3, 4, 5, 11], [3, 4, 5], [3, 4, 5], [3, 4, 5, 21], [3, 4, 5], [3, 4, 5, 38], [3, 4, 5], [3, 4, 5, 48], [3, 4, 5], [3, 4, 5, 58], [3, 4, 5], [2]]
def tab123 : List (List Nat) := [[0], [0, 3], [0, 3, 7], [0, 3], [0, 3, 21], [2], [2]]
def tab124 : List (List Nat) := [[0, 3, 4], [4]]
def tab125 : List (List Nat) := [[0, 2], [0, 2, 3], [0, 2, 3, 4], [0, 2, 3, 4, 8], [0, 2, 3, 4], [0, 2, 3, 4], [2]]
def tab126 : List (List Nat) := [[2, 3, 4], [2, 3, 4, 5], [2, 3, 4, 5, 6], [2, 3, 4, 5, 6, 7], [2, 3, 4, 5, 6, 7, 24], [2, 3, 4, 5, 6, 7], [2, 3, 4, 5, 7, 8], [2, 3, 4, 5, 7, 8, 32], [2, 3, 4, 5, 7, 8], [2, 3, 4, 5, 7, 8, 44], [2, 3, 4, 5, 7, 8], [2, 3, 4, 5, 7, 8], [2, 3, 4, 5, 6, 7], [4]]
def tab127 : List (List Nat) := [[0, 2], [0, 2, 3], [0, 2, 3, 5], [0, 2, 3], [0, 2, 3], [2]]
def tab128 : List (List Nat) := [[0, 1], [0, 1, 10], [4], [0, 1, 12], [4], [0, 1, 5], [0, 1, 5, 6], [0, 1, 5, 6, 7], [1, 5, 6, 7, 8], [4]]
def tab129 : List (List Nat) := [[0], [0, 4], [2], [2]]
def tab130 : List (List Nat) := [[0], [0, 14], [0], [2]]
def tab131 : List (List Nat) := [[0, 1], [4]]
def tab132 : List (List Nat) := [[0, 1], [3]]
def tab133 : List (List Nat) := [[0, 1], [0, 1, 5], [0, 1, 5, 6], [0, 1, 6, 11], [12], [4], [4], [0, 1, 13], [4], [0, 1, 16], [4], [19], [4], [4]]
def tab134 : List (List Nat) := [[0, 1], [0, 1, 6], [0, 1, 6, 7], [0, 1, 6, 7, 8], [0, 1, 6, 7, 8, 16], [0, 1, 6, 7, 8], [0, 1, 6, 7, 8], [0, 1, 6, 7, 8], [0, 1, 6, 7, 8], [4, 5]]
def tab135 : List (List Nat) := [[0, 2, 3], [0, 2, 3, 9], [0, 2, 3], [0, 2, 3]]
def tab136 : List (List Nat) := [[0, 3], [4]]
def tab137 : List (List Nat) := [[0], [2]]
def tab138 : List (List Nat) := [[1, 2, 4], [1, 2, 4, 6], [1, 2, 4, 6, 7], [1, 2, 4, 6, 7, 8], [1, 2, 4, 6, 7, 8, 19], [1, 2, 4, 6, 7, 8], [1, 2, 4, 6, 8, 9], [1, 2, 4, 6, 8, 9], [1, 2, 4, 6, 7, 8], [4, 5]]
def tab139 : List (List Nat) := [[0], [0, 4], [2], [2]]
def tab140 : List (List Nat) := [[0, 2], [0, 2, 3], [0, 2, 3, 15], [0, 2, 3], [2]]
def tab141 : List (List Nat) := [[1, 2], [2]]
def tab142 : List (List Nat) := [[1, 2], [2]]
def tab143 : List (List Nat) := [[0, 1], [0, 1, 11], [4], [0, 1, 5], [0, 1, 5, 6], [1, 5, 6, 21, 22, 23], [1, 5, 6, 21, 22, 23, 24], [1, 5, 6, 8, 21, 22, 23], [1, 5, 6, 21, 22, 23], [1, 5, 6, 21, 22, 23], [1, 5, 6, 21, 22, 23], [1, 5, 6, 21, 22, 23], [4]]
def tab144 : List (List Nat) := [[1, 2, 4], [1, 2, 4, 8], [4], [4]]
def tab145 : List (List Nat) := [[1], [1, 8], [2], [1, 3], [3, 4], [3, 4, 23], [3, 4], [3, 4], [2]]
def tab146 : List (List Nat) := [[2, 3, 4, 5], [2, 3, 4, 5, 17], [4, 5, 6, 7], [4, 5], [2, 3, 4, 5, 8], [2, 3, 4, 5, 8, 9], [2, 3, 4, 5, 8, 9, 10], [2, 3, 4, 5, 8, 9, 10, 39], [2, 3, 4, 5, 8, 9, 10], [2, 3, 4, 5, 8, 9, 10], [2, 3, 4, 5, 8, 9, 10, 11, 12], [2, 3, 4, 5, 8, 9, 10, 11, 12, 55], [2, 3, 4, 5, 8, 9, 10, 11, 12, 13], [2, 3, 4, 5, 8, 9, 10, 11, 12, 13, 66], [2, 3, 4, 5, 8, 9, 10, 11, 12], [2, 3, 4, 5, 8, 9, 10, 11, 12], [2, 3, 4, 5, 8, 9, 10, 11], [2, 3, 4, 5, 8, 9, 10], [4, 5]]
def tab147 : List (List Nat) := [[1, 2, 4], [1, 2, 4, 12], [4], [4, 5], [4]]
def tab148 : List (List Nat) := [[2, 3], [2, 3, 12], [19], [4], [4], [2, 3, 5], [2, 3, 5, 25], [2, 3, 5], [2, 3, 5, 38], [4], [2, 3, 5, 49], [4], [4]]
def tab149 : List (List Nat) := [[0], [0, 5], [2], [2]]
def tab150 : List (List Nat) := [[0, 1], [0, 1, 13], [4], [1, 5], [1, 5, 6], [1, 5, 6, 21, 22, 23], [1, 5, 6, 21, 22, 23, 24], [1, 5, 6, 7, 8, 21, 22, 23], [1, 5, 6, 7, 8, 21, 22, 23, 32], [1, 5, 6, 8, 21, 22, 23], [1, 5, 6, 21, 22, 23], [1, 5, 6, 21, 22, 23], [4]]
def tab151 : List (List Nat) := [[1, 2], [1, 2, 7], [2, 3], [2, 3]]
def tab152 : List (List Nat) := [[0], [2], [2]]
def tab153 : List (List Nat) := [[0, 1, 2], [0, 1, 2, 7], [0, 1, 2, 7, 8], [0, 1, 2, 7, 9, 10], [0, 1, 2, 7, 9, 10, 63], [0, 1, 2, 7, 9, 10], [0, 1, 2, 7, 9, 10], [0, 1, 2, 7, 9, 10, 74], [6]]
def tab154 : List (List Nat) := [[0, 1, 2, 3], [0, 1, 2, 3, 9], [0, 1, 2, 3, 9, 13, 14, 15], [0, 1, 2, 3, 9, 13, 14, 15, 16], [0, 1, 2, 3, 9, 10, 11, 13, 14, 15], [0, 1, 2, 3, 10, 12, 13, 14, 15], [0, 1, 2, 3, 9, 10, 12, 13, 14, 15], [0, 1, 2, 3, 9, 10, 12, 13, 14, 15, 33], [0, 1, 2, 3, 9, 10, 12, 13, 14, 15], [0, 1, 2, 3, 9, 10, 12, 13, 14, 15], [0, 1, 2, 3, 9, 13, 14, 15], [0, 1, 2, 3, 9, 13, 14, 15], [0, 1, 2], [8]]
def tab155 : List (List Nat) := [[0, 1, 2, 6], [0, 1, 2, 6, 9, 10, 11], [0, 1, 2, 6, 9, 10, 11, 12], [0, 1, 2, 6, 7, 8, 9, 10, 11], [0, 1, 2, 6, 7, 9, 10, 11], [0, 1, 2, 6, 9, 10, 11], [0, 1, 2, 6, 9, 10, 11], [0, 1, 2, 6, 9, 10, 11], []]
def tab156 : List (List Nat) := [[2, 3, 4], [2, 3, 4, 5], [2, 3, 4, 5, 6], [2, 3, 4, 5, 6, 7], [2, 3, 4, 5, 6, 7, 13], [2, 3, 4, 5, 6, 7], [2, 3, 4, 5, 7, 8], [2, 3, 4, 5, 7, 8, 27], [2, 3, 4, 5, 7, 8], [2, 3, 4, 5, 6, 7, 8], [2, 3, 4, 5, 6, 7, 8, 36], [2, 3, 4, 5, 7, 8], [2, 3, 4, 5, 6, 7, 8], [2, 3, 4, 5, 6, 7], [4]]
def tab158 : List (List Nat) := [[0], [0], [0, 3], [0, 3, 34], [0, 3], [3], [2]]
def tab159 : List (List Nat) := [[0], [0, 8], [2], [0, 3], [0, 3, 12], [2], [0, 3, 4], [0, 3, 4, 5], [0, 3, 4, 5, 21], [0, 3, 4, 5], [0, 3, 4, 5], [0, 3, 4, 5], [4], [2]]
def tab160 : List (List Nat) := [[0], [2]]
def tab161 : List (List Nat) := [[0], [0, 11], [2, 3], [0, 4, 5], [0, 4, 5, 31], [2, 3], [4, 5, 34, 35, 36], [4, 5, 34, 35, 36, 37], [4, 5, 7, 34, 35, 36], [4, 5, 7, 34, 35, 36, 42], [2, 3], [4, 5, 34, 35, 36], [4, 5, 34, 35, 36], [4, 5, 58], [2, 3], [2, 3]]
def tab162 : List (List Nat) := [[0, 1], [0, 1, 7, 8], [0, 1, 7, 8, 9], [0, 1, 5, 7, 8], [0, 1, 5, 7, 8, 16], [4], [0, 1, 7, 8], [4]]
def tab163 : List (List Nat) := [[0], [0, 9], [2], [0, 3], [0, 3, 4], [0, 3, 4, 13], [0, 3, 4, 5, 6], [0, 3, 4, 6], [0, 3, 4], [2]]
def tab164 : List (List Nat) := [[0], [0, 3], [0, 3, 4], [0, 3, 4, 9], [0, 3, 4], [0, 3, 4, 26], [2], [2]]
def tab165 : List (List Nat) := [[0], [3], [3, 4], [3, 4], [2], [3, 7], [3, 7], [7], [2], [2]]
def tab166 : List (List Nat) := [[0], [2]]
def tab167 : List (List Nat) := [[0, 1], [0, 1, 7, 8], [0, 1, 7, 8, 9], [0, 1, 5, 7, 8], [0, 1, 5, 7, 8, 16], [4], [0, 1, 7, 8], [4]]
def tab168 : List (List Nat) := [[0], [2]]
def tab169 : List (List Nat) := [[0, 1], [4]]
def tab170 : List (List Nat) := [[0, 1], [3]]
def tab171 : List (List Nat) := [[0, 2], [0, 2, 4], [0], [0, 2], [0, 2, 8], [0, 2], [0, 2], [2]]
def tab172 : List (List Nat) := [[0, 2], [0, 2, 4], [0], [0, 2], [0, 2, 8], [0, 2], [0, 2], [0, 2, 14], [0, 2], [0, 2], [2]]
def tab173 : List (List Nat) := [[0], [2]]
def tab174 : List (List Nat) := [[0], [0, 3], [2], [0, 6], [2], [9], [2], [2]]
def tab175 : List (List Nat) := [[0], [0, 4], [2, 3], [0, 9], [2, 3], [0, 14], [2, 3], [2, 3]]
def tab176 : List (List Nat) := [[0, 1], [0, 1, 6], [0, 1, 6, 18], [4, 5], [0, 1, 6], [4, 5], [0, 1, 6, 20], [0, 1, 6, 7], [0, 1, 7, 8], [0, 1, 7, 8, 9], [0, 1, 6, 29], [0, 1, 6, 7], [0, 1, 7, 8], [0, 1, 7, 8, 9], [0, 1, 6, 38], [0, 1, 6, 7], [0, 1, 7, 8], [0, 1, 7, 8, 9], [0, 1, 7, 8, 9, 10], [0, 1, 7, 8, 9, 10, 49], [0, 1, 7, 8, 9, 10], [0, 1, 7, 8, 9, 10, 11], [0, 1, 7, 8, 9, 10, 11, 58], [4, 5], [0, 1, 7, 8, 9, 10], [7, 8, 70], [4, 5], [4, 5]]
def tab177 : List (List Nat) := [[0, 1], [0, 1, 7, 8], [0, 1, 7, 8, 9], [0, 1, 5, 7, 8], [0, 1, 5, 7, 8, 16], [4], [0, 1, 7, 8], [4]]
def tab178 : List (List Nat) := [[0, 1], [0, 1, 22], [4], [4]]
def tabs : Nat → List (List Nat)
  | 3 => tab3
  | 4 => tab4
  | 5 => tab5
  | 6 => tab6
  | 7 => tab7
  | 8 => tab8
  | 9 => tab9
  | 10 => tab10
  | 12 => tab12
  | 13 => tab13
  | 14 => tab14
  | 15 => tab15
  | 16 => tab16
  | 17 => tab17
  | 18 => tab18
  | 19 => tab19
  | 20 => tab20
  | 21 => tab21
  | 22 => tab22
  | 23 => tab23
  | 24 => tab24
  | 25 => tab25
  | 26 => tab26
  | 27 => tab27
  | 28 => tab28
  | 29 => tab29
  | 30 => tab30
  | 31 => tab31
  | 32 => tab32
  | 33 => tab33
  | 34 => tab34
  | 35 => tab35
  | 36 => tab36
  | 37 => tab37
  | 38 => tab38
  | 39 => tab39
  | 40 => tab40
  | 41 => tab41
  | 42 => tab42
  | 43 => tab43
  | 44 => tab44
  | 45 => tab45
  | 46 => tab46
  | 47 => tab47
  | 48 => tab48
  | 49 => tab49
  | 50 => tab50
  | 51 => tab51
  | 52 => tab52
  | 53 => tab53
  | 54 => tab54
  | 55 => tab55
  | 56 => tab56
  | 57 => tab57
  | 59 => tab59
  | 61 => tab61
  | 62 => tab62
  | 63 => tab63
  | 64 => tab64
  | 65 => tab65
  | 66 => tab66
  | 67 => tab67
  | 68 => tab68
  | 69 => tab69
  | 70 => tab70
  | 71 => tab71
  | 72 => tab72
  | 73 => tab73
  | 74 => tab74
  | 75 => tab75
  | 76 => tab76
  | 77 => tab77
  | 78 => tab78
  | 79 => tab79
  | 80 => tab80
  | 81 => tab81
  | 82 => tab82
  | 83 => tab83
  | 84 => tab84
  | 85 => tab85
  | 86 => tab86
  | 87 => tab87
  | 88 => tab88
  | 89 => tab89
  | 90 => tab90
  | 91 => tab91
  | 92 => tab92
  | 93 => tab93
  | 94 => tab94
  | 95 => tab95
  | 96 => tab96
  | 97 => tab97
  | 98 => tab98
  | 99 => tab99
  | 100 => tab100
  | 101 => tab101
  | 102 => tab102
  | 103 => tab103
  | 104 => tab104
  | 105 => tab105
  | 106 => tab106
  | 107 => tab107
  | 108 => tab108
  | 109 => tab109
  | 110 => tab110
  | 111 => tab111
  | 113 => tab113
  | 115 => tab115
  | 116 => tab116
  | 117 => tab117
  | 118 => tab118
  | 119 => tab119
  | 120 => tab120
  | 121 => tab121
  | 122 => tab122
  | 123 => tab123
  | 124 => tab124
  | 125 => tab125
  | 126 => tab126
  | 127 => tab127
  | 128 => tab128
  | 129 => tab129
  | 130 => tab130
  | 131 => tab131
  | 132 => tab132
  | 133 => tab133
  | 134 => tab134
  | 135 => tab135
  | 136 => tab136
  | 137 => tab137
  | 138 => tab138
  | 139 => tab139
  | 140 => tab140
  | 141 => tab141
  | 142 => tab142
  | 143 => tab143
  | 144 => tab144
  | 145 => tab145
  | 146 => tab146
  | 147 => tab147
  | 148 => tab148
  | 149 => tab149
  | 150 => tab150
  | 151 => tab151
  | 152 => tab152
  | 153 => tab153
  | 154 => tab154
  | 155 => tab155
  | 156 => tab156
  | 158 => tab158
  | 159 => tab159
  | 160 => tab160
  | 161 => tab161
  | 162 => tab162
  | 163 => tab163
  | 164 => tab164
  | 165 => tab165
  | 166 => tab166
  | 167 => tab167
  | 168 => tab168
  | 169 => tab169
  | 170 => tab170
  | 171 => tab171
  | 172 => tab172
  | 173 => tab173
  | 174 => tab174
  | 175 => tab175
  | 176 => tab176
  | 177 => tab177
  | 178 => tab178
  | _ => []
def impL : List Nat := [44, 56, 71, 82, 83, 88, 89, 90, 104, 115, 120, 128, 135, 139, 154, 155, 158]
def aliL : List Nat := [121, 130]
def gcL : List Nat := [14, 16, 17, 18, 19, 20, 21, 22, 24, 25, 27, 28, 30, 31, 32, 33, 34, 35, 36, 37, 38, 39, 40, 41, 42, 43, 45, 47, 49, 51, 52, 53, 54, 55, 57, 59, 61, 62, 63, 64, 65, 67, 68, 69, 70, 73, 74, 75, 76, 77, 78, 79, 80, 81, 84, 85, 86, 87, 91, 93, 94, 95, 96, 97, 98, 99, 100, 101, 102, 103, 105, 106, 107, 108, 109, 110, 111, 113, 116, 117, 118, 119, 122, 123, 124, 125, 126, 127, 129, 131, 132, 133, 134, 136, 137, 138, 140, 141, 142, 143, 144, 145, 146, 147, 148, 149, 150, 151, 152, 153, 156, 159, 160, 161, 162, 163, 164, 165, 166, 167, 168, 169, 170, 171, 172, 173, 174, 175, 176, 177, 178]
def ownL : List Nat := [3, 4, 5, 6, 7, 8, 9, 10, 12, 13, 14, 15, 16, 17, 18, 19, 20, 21, 22, 23, 24, 25, 26, 27, 28, 29, 30, 31, 32, 33, 34, 35, 36, 37, 38, 39, 40, 41, 42, 43, 44, 45, 46, 47, 48, 49, 50, 51, 52, 53, 54, 55, 56, 57, 59, 61, 62, 63, 64, 65, 66, 67, 68, 69, 70, 71, 72, 73, 74, 75, 76, 77, 78, 79, 80, 81, 82, 83, 84, 85, 86, 87, 88, 89, 90, 91, 92, 93, 94, 95, 96, 97, 98, 99, 100, 101, 102, 103, 104, 105, 106, 107, 108, 109, 110, 111, 113, 115, 116, 117, 118, 119, 120, 121, 122, 123, 124, 125, 126, 127, 128, 129, 130, 131, 132, 133, 134, 135, 136, 137, 138, 139, 140, 141, 142, 143, 144, 145, 146, 147, 148, 149, 150, 151, 152, 153, 154, 155, 156, 158, 159, 160, 161, 162, 163, 164, 165, 166, 167, 168, 169, 170, 171, 172, 173, 174, 175, 176, 177, 178]
def cf : Cfg where
  pure := fun f => !impL.contains f
  keep := fun f r => (tabs f).getD r []
  pack := fun f => if f = 129 then .pack [.i64] else if ownL.contains f then .whole else .no
  clone := fun f => match f with
    | 129 => some .i64
    | _ => none
  glob := fun _ => none
  rounds := 4294967296
  wary := fun f r => match f with
    | 48 => true
    | 53 => true
    | 72 => true
    | 92 => true
    | 146 => r == 18
    | _ => false
def nil16 (t : Nat) : Option NK := if t = 4 then some (.i .u8) else none
def nil24 (t : Nat) : Option NK := if t = 2 then some (.i .u8) else none
def nil26 (t : Nat) : Option NK := if t = 2 then some (.i .u8) else none
def nil59 (t : Nat) : Option NK := if t = 2 then some (.i .u8) else if t = 3 then some (.i .u8) else none
def nil62 (t : Nat) : Option NK := if t = 2 then some (.i .i64) else none
def nil67 (t : Nat) : Option NK := if t = 2 then some (.i .u8) else none
def nil69 (t : Nat) : Option NK := if t = 2 then some (.i .u8) else none
def nil75 (t : Nat) : Option NK := if t = 4 then some (.i .i64) else none
def nil76 (t : Nat) : Option NK := if t = 4 then some (.i .i64) else none
def nil81 (t : Nat) : Option NK := if t = 4 then some (.i .i64) else none
def nil84 (t : Nat) : Option NK := if t = 2 then some (.i .u8) else if t = 3 then some (.i .u8) else none
def nil86 (t : Nat) : Option NK := if t = 2 then some (.i .i64) else if t = 3 then some (.i .i64) else none
def nil87 (t : Nat) : Option NK := if t = 2 then some (.i .u8) else if t = 3 then some (.i .u8) else if t = 6 then some (.i .u8) else none
def nil88 (t : Nat) : Option NK := if t = 3 then some (.i .i64) else none
def nil95 (t : Nat) : Option NK := if t = 9 then some (.i .i64) else none
def nil97 (t : Nat) : Option NK := if t = 2 then some (.i .i64) else none
def nil101 (t : Nat) : Option NK := if t = 2 then some (.i .i64) else none
def nil102 (t : Nat) : Option NK := if t = 2 then some (.i .i64) else none
def nil108 (t : Nat) : Option NK := if t = 4 then some (.i .i64) else if t = 5 then some (.i .i64) else none
def nil109 (t : Nat) : Option NK := if t = 2 then some (.i .i64) else if t = 3 then some (.i .i64) else none
def nil113 (t : Nat) : Option NK := if t = 2 then some (.i .u8) else none
def nil116 (t : Nat) : Option NK := if t = 2 then some (.i .u8) else none
def nil117 (t : Nat) : Option NK := if t = 2 then some (.i .u8) else none
def nil118 (t : Nat) : Option NK := if t = 2 then some (.i .i64) else if t = 4 then some (.i .i64) else none
def nil121 (t : Nat) : Option NK := if t = 4 then some (.i .u8) else none
def nil122 (t : Nat) : Option NK := if t = 2 then some (.i .u8) else if t = 4 then some (.i .u8) else none
def nil126 (t : Nat) : Option NK := if t = 5 then some (.i .i64) else none
def nil127 (t : Nat) : Option NK := if t = 3 then some (.i .i64) else none
def nil129 (t : Nat) : Option NK := if t = 2 then some (.i .i64) else none
def nil130 (t : Nat) : Option NK := if t = 2 then some (.i .i64) else none
def nil134 (t : Nat) : Option NK := if t = 4 then some (.i .i64) else none
def nil143 (t : Nat) : Option NK := if t = 4 then some (.i .i64) else none
def nil150 (t : Nat) : Option NK := if t = 4 then some (.i .i64) else none
def nil156 (t : Nat) : Option NK := if t = 5 then some (.i .i64) else none
def nil159 (t : Nat) : Option NK := if t = 2 then some (.i .u8) else none
def nil163 (t : Nat) : Option NK := if t = 2 then some (.i .i64) else if t = 3 then some (.i .i64) else none
def kn : Kn where
  cf := cf
  out := fun f => match f with
    | 3 => .frz []
    | 4 => .frz []
    | 5 => .frz []
    | 6 => .frz []
    | 7 => .frz []
    | 8 => .frz []
    | 9 => .frz []
    | 10 => .frz []
    | 12 => .frz []
    | 13 => .frz []
    | 14 => .frz []
    | 15 => .frz [[some (.i .i64)], [some (.i .i64)]]
    | 16 => .own [[some (.i .u8)]]
    | 17 => .own [[some (.i .i64)]]
    | 18 => .own [[some (.i .i64)]]
    | 19 => .frz []
    | 20 => .frz []
    | 21 => .frz []
    | 22 => .own [[some (.i .i64)]]
    | 23 => .frz [[some (.i .i64)]]
    | 24 => .own [[some (.i .u8)]]
    | 25 => .own [[some (.i .i64)]]
    | 26 => .frz [[some (.i .u8)]]
    | 27 => .frz [[some (.i .i64)]]
    | 28 => .frz []
    | 29 => .frz [[none, some (.i .i64)], [none, some (.i .i64)]]
    | 30 => .own [[none, some (.i .i64)]]
    | 31 => .own [[none, some (.i .i64)]]
    | 32 => .own [[none, some (.i .i64)]]
    | 33 => .frz []
    | 34 => .frz []
    | 35 => .frz []
    | 36 => .own [[none, some (.i .i64)]]
    | 37 => .own [[none, some (.i .i64)]]
    | 38 => .frz []
    | 39 => .frz []
    | 40 => .frz [[some (.i .i64)]]
    | 41 => .own [[some (.i .i64)]]
    | 42 => .own [[some (.i .i64)]]
    | 43 => .frz []
    | 44 => .inl
    | 45 => .frz []
    | 46 => .frz [[some (.i .i64)]]
    | 47 => .frz []
    | 48 => .frz [[some (.i .i64)], [some (.i .i64)]]
    | 49 => .own [[some (.i .i64)], [some (.i .i64)]]
    | 50 => .frz [[none, some (.i .i64)], [none, some (.i .i64)]]
    | 51 => .own [[none, some (.i .i64)], [none, some (.i .i64)]]
    | 52 => .frz []
    | 53 => .frz [[none, some (.i .i64)], [none, some (.i .i64)]]
    | 54 => .own [[none, some (.i .i64)]]
    | 55 => .frz []
    | 56 => .inl
    | 57 => .frz []
    | 59 => .own [[some (.i .u8)]]
    | 61 => .own [[none, some (.i .i64)]]
    | 62 => .own [[some (.i .i64)]]
    | 63 => .frz []
    | 64 => .frz []
    | 65 => .frz []
    | 66 => .frz [[none, some (.i .i64)]]
    | 67 => .own [[some (.i .u8)]]
    | 68 => .frz [[none, some (.i .i64)]]
    | 69 => .own [[some (.i .u8)]]
    | 70 => .frz []
    | 71 => .inl
    | 72 => .frz [[some (.i .i64)], [some (.i .i64)]]
    | 73 => .frz []
    | 74 => .own [[some (.i .i64)]]
    | 75 => .own [[some (.i .i64)]]
    | 76 => .own [[some (.i .i64)]]
    | 77 => .frz []
    | 78 => .frz []
    | 79 => .frz []
    | 80 => .frz []
    | 81 => .own [[some (.i .i64)]]
    | 82 => .inl
    | 83 => .inl
    | 84 => .own [[some (.i .u8)]]
    | 85 => .frz []
    | 86 => .own [[some (.i .i64)]]
    | 87 => .own [[some (.i .u8)]]
    | 88 => .inl
    | 89 => .inl
    | 90 => .inl
    | 91 => .frz [[some (.i .i64)]]
    | 92 => .frz [[none, some (.i .i64)], [none, some (.i .i64)]]
    | 93 => .frz []
    | 94 => .own [[none, some (.i .i64)]]
    | 95 => .frz [[], [some (.i .i64)]]
    | 96 => .own [[none, some (.i .i64)]]
    | 97 => .own [[some (.i .i64)]]
    | 98 => .frz []
    | 99 => .frz []
    | 100 => .frz [[some (.i .i64)]]
    | 101 => .own [[some (.i .i64)]]
    | 102 => .own [[some (.i .i64)]]
    | 103 => .frz []
    | 104 => .inl
    | 105 => .frz []
    | 106 => .frz [[some (.i .i64)]]
    | 107 => .frz [[some (.i .i64)]]
    | 108 => .own [[some (.i .i64)], [some (.i .i64)]]
    | 109 => .own [[some (.i .i64)]]
    | 110 => .frz [[none, some (.i .i64)], [none, some (.i .i64)]]
    | 111 => .frz [[none, some (.i .i64)]]
    | 113 => .own [[some (.i .u8)]]
    | 115 => .inl
    | 116 => .frz [[some (.i .u8)]]
    | 117 => .frz [[some (.i .u8)]]
    | 118 => .own [[some (.i .i64)]]
    | 119 => .frz []
    | 120 => .inl
    | 121 => .inl
    | 122 => .frz [[some (.i .u8)]]
    | 123 => .frz []
    | 124 => .frz [[none, some (.i .i64)]]
    | 125 => .frz [[some (.i .i64)]]
    | 126 => .frz [[some (.i .i64)]]
    | 127 => .own [[some (.i .i64)]]
    | 128 => .inl
    | 129 => .own [[some (.i .i64)]]
    | 130 => .inl
    | 131 => .frz []
    | 132 => .frz []
    | 133 => .frz []
    | 134 => .own [[some (.i .i64)]]
    | 135 => .inl
    | 136 => .frz []
    | 137 => .frz []
    | 138 => .frz [[some (.i .i64)]]
    | 139 => .inl
    | 140 => .own [[some (.i .i64)]]
    | 141 => .frz [[none, some (.i .i64)]]
    | 142 => .own [[none, some (.i .i64)]]
    | 143 => .own [[some (.i .i64)]]
    | 144 => .frz [[some (.i .i64)]]
    | 145 => .frz []
    | 146 => .frz [[some (.i .i64)], [some (.i .i64)]]
    | 147 => .frz [[some (.i .i64)]]
    | 148 => .frz []
    | 149 => .frz []
    | 150 => .own [[some (.i .i64)]]
    | 151 => .frz [[some (.i .i64)]]
    | 152 => .frz []
    | 153 => .frz []
    | 154 => .inl
    | 155 => .inl
    | 156 => .frz [[some (.i .i64)]]
    | 158 => .inl
    | 159 => .own [[some (.i .u8)]]
    | 160 => .frz []
    | 161 => .frz []
    | 162 => .frz []
    | 163 => .frz [[some (.i .i64)]]
    | 164 => .frz []
    | 165 => .frz []
    | 166 => .frz []
    | 167 => .frz []
    | 168 => .frz []
    | 169 => .frz []
    | 170 => .frz []
    | 171 => .frz []
    | 172 => .frz []
    | 173 => .frz []
    | 174 => .frz []
    | 175 => .frz []
    | 176 => .frz []
    | 177 => .frz []
    | 178 => .frz []
    | _ => .inl
  args := fun f => match f with
    | 3 => [[some (.i .u8)]]
    | 4 => [[some (.i .u8)]]
    | 5 => [[some (.i .u8)]]
    | 6 => [[some (.i .i64)]]
    | 7 => [[some (.i .u8)]]
    | 8 => [[some (.i .u8)]]
    | 9 => [[some (.i .u8)]]
    | 10 => [[none, some (.i .i64)], [none, some (.i .i64)]]
    | 12 => [[some (.i .u8)]]
    | 13 => [[some (.i .u8)]]
    | 15 => [[some (.i .u8)]]
    | 16 => [[some (.i .u8)]]
    | 17 => [[some (.i .i64)], [some (.i .i64)]]
    | 18 => [[some (.i .i64)], [some (.i .i64)]]
    | 19 => [[some (.i .i64)], [some (.i .i64)]]
    | 20 => [[some (.i .i64)]]
    | 21 => [[some (.i .i64)]]
    | 22 => [[some (.i .i64)], [some (.i .i64)]]
    | 23 => [[some (.i .u8)]]
    | 24 => [[some (.i .i64)]]
    | 25 => [[some (.i .u8)]]
    | 26 => [[some (.i .u8)]]
    | 28 => [[some (.i .u8)], [some (.i .u8)]]
    | 29 => [[some (.i .u8)]]
    | 30 => [[none, some (.i .i64)], [none, some (.i .i64)]]
    | 31 => [[none, some (.i .i64)], [none, some (.i .i64)]]
    | 32 => [[none, some (.i .i64)]]
    | 33 => [[none, some (.i .i64)]]
    | 34 => [[none, some (.i .i64)]]
    | 35 => [[none, some (.i .i64)], [none, some (.i .i64)]]
    | 37 => [[none, some (.i .i64)], [none, some (.i .i64)]]
    | 38 => [[none, some (.i .i64)], [none, some (.i .i64)]]
    | 39 => [[some (.i .i64)]]
    | 40 => [[some (.i .i64)]]
    | 41 => [[some (.i .i64)]]
    | 42 => [[some (.i .i64)]]
    | 43 => [[some (.i .i64)], [some (.i .i64)]]
    | 45 => [[some (.i .i64)]]
    | 46 => [[some (.i .u8)]]
    | 47 => [[some (.i .i64)], [some (.i .i64)]]
    | 48 => [[some (.i .u8)]]
    | 49 => [[some (.i .i64)], [some (.i .i64)]]
    | 50 => [[some (.i .u8)]]
    | 51 => [[none, some (.i .i64)], [none, some (.i .i64)]]
    | 52 => [[none, some (.i .i64)]]
    | 53 => [[none, some (.i .i64)], [none, some (.i .i64)]]
    | 54 => [[none, some (.i .i64)]]
    | 55 => [[none, some (.i .i64)], [none, some (.i .i64)]]
    | 57 => [[none, some (.i .i64)]]
    | 59 => [[some (.i .u8)]]
    | 61 => [[some (.i .u8)]]
    | 62 => [[some (.i .u8)]]
    | 66 => [[some (.i .u8)]]
    | 67 => [[none, some (.i .i64)]]
    | 68 => [[some (.i .u8)]]
    | 69 => [[some (.i .u8)]]
    | 70 => [[some (.i .u8)], [some (.i .u8)]]
    | 72 => [[some (.i .u8)]]
    | 73 => [[some (.i .i64)], [some (.i .i64)]]
    | 74 => [[some (.i .i64)]]
    | 75 => [[some (.i .i64)], [some (.i .i64)]]
    | 76 => [[some (.i .i64)], [some (.i .i64)]]
    | 77 => [[some (.i .i64)]]
    | 80 => [[some (.i .i64)], [some (.i .i64)]]
    | 81 => [[some (.i .i64)], [some (.i .i64)]]
    | 84 => [[some (.i .i64)]]
    | 85 => [[some (.i .u8)]]
    | 86 => [[some (.i .u8)]]
    | 87 => [[some (.i .i64)]]
    | 92 => [[some (.i .u8)]]
    | 93 => [[none, some (.i .i64)], [none, some (.i .i64)]]
    | 94 => [[], [some (.i .i64)]]
    | 95 => [[], [some (.i .i64)], [], [some (.i .i64)]]
    | 96 => [[none, some (.i .i64)]]
    | 98 => [[], [some (.i .i64)], [], [some (.i .i64)]]
    | 99 => [[some (.i .i64)]]
    | 100 => [[some (.i .i64)]]
    | 101 => [[some (.i .i64)]]
    | 102 => [[some (.i .i64)]]
    | 103 => [[some (.i .i64)], [some (.i .i64)]]
    | 105 => [[some (.i .i64)]]
    | 106 => [[some (.i .i64)], [some (.i .i64)]]
    | 107 => [[some (.i .i64)], [some (.i .i64)]]
    | 108 => [[some (.i .i64)], [some (.i .i64)]]
    | 110 => [[none, some (.i .i64)], [none, some (.i .i64)]]
    | 111 => [[none, some (.i .i64)]]
    | 117 => [[some (.i .u8)]]
    | 118 => [[some (.i .u8)]]
    | 119 => [[some (.i .i64)]]
    | 121 => [[], [some (.i .u8)]]
    | 122 => [[some (.i .u8)]]
    | 123 => [[some (.i .u8)]]
    | 124 => [[], [some (.i .i64)]]
    | 125 => [[some (.i .u8)]]
    | 126 => [[some (.i .i64)], [some (.i .i64)]]
    | 129 => [[some (.i .i64)]]
    | 130 => [[some (.i .i64)]]
    | 131 => [[some (.i .i64)]]
    | 134 => [[some (.i .i64)]]
    | 136 => [[some (.i .u8)]]
    | 138 => [[some (.i .i64)]]
    | 140 => [[some (.i .i64)]]
    | 141 => [[none, some (.i .i64)]]
    | 142 => [[none, some (.i .i64)]]
    | 143 => [[some (.i .i64)]]
    | 144 => [[some (.i .i64)]]
    | 145 => [[some (.i .i64)]]
    | 146 => [[some (.i .i64)], [some (.i .i64)]]
    | 147 => [[some (.i .i64)]]
    | 148 => [[some (.i .i64)], [some (.i .i64)]]
    | 149 => [[some (.i .i64)]]
    | 150 => [[some (.i .i64)]]
    | 151 => [[some (.i .i64)]]
    | 153 => [[some (.i .i64)], [some (.i .i64)]]
    | 156 => [[some (.i .i64)], [some (.i .i64)]]
    | 161 => [[some (.i .u8)]]
    | 162 => [[some (.i .i64)]]
    | 163 => [[some (.i .u8)]]
    | 167 => [[some (.i .i64)]]
    | 169 => [[some (.i .u8)]]
    | 176 => [[some (.i .u8)]]
    | 177 => [[some (.i .u8)]]
    | 178 => [[some (.i .u8)]]
    | _ => []
  nils := fun f => match f with
    | 16 => nil16
    | 24 => nil24
    | 26 => nil26
    | 59 => nil59
    | 62 => nil62
    | 67 => nil67
    | 69 => nil69
    | 75 => nil75
    | 76 => nil76
    | 81 => nil81
    | 84 => nil84
    | 86 => nil86
    | 87 => nil87
    | 88 => nil88
    | 95 => nil95
    | 97 => nil97
    | 101 => nil101
    | 102 => nil102
    | 108 => nil108
    | 109 => nil109
    | 113 => nil113
    | 116 => nil116
    | 117 => nil117
    | 118 => nil118
    | 121 => nil121
    | 122 => nil122
    | 126 => nil126
    | 127 => nil127
    | 129 => nil129
    | 130 => nil130
    | 134 => nil134
    | 143 => nil143
    | 150 => nil150
    | 156 => nil156
    | 159 => nil159
    | 163 => nil163
    | _ => fun _ => none
  gc := fun f => gcL.contains f
  ali := fun f => aliL.contains f
  glob := fun _ => none
@[simp] theorem k_cf : kn.cf = cf := rfl
/-! 3: laws.FnNatRing -/
@[simp] theorem c_keep3 (r : Nat) : cf.keep 3 r = tab3.getD r [] := rfl
@[simp] theorem c_pure3 : cf.pure 3 = true := rfl
@[simp] theorem c_pack3 : cf.pack 3 = .whole := rfl
@[simp] theorem c_wary3 (r : Nat) : cf.wary 3 r = false := rfl
@[simp] theorem c_clone3 : cf.clone 3 = none := rfl
@[simp] theorem k_out3 : kn.out 3 = .frz [] := rfl
@[simp] theorem k_args3 : kn.args 3 = [[some (.i .u8)]] := rfl
@[simp] theorem k_nils3 : kn.nils 3 = fun _ => none := rfl
@[simp] theorem k_gc3 : kn.gc 3 = false := rfl
@[simp] theorem k_ali3 : kn.ali 3 = false := rfl
/-! 4: laws.FnNatTexts -/
@[simp] theorem c_keep4 (r : Nat) : cf.keep 4 r = tab4.getD r [] := rfl
@[simp] theorem c_pure4 : cf.pure 4 = true := rfl
@[simp] theorem c_pack4 : cf.pack 4 = .whole := rfl
@[simp] theorem c_wary4 (r : Nat) : cf.wary 4 r = false := rfl
@[simp] theorem c_clone4 : cf.clone 4 = none := rfl
@[simp] theorem k_out4 : kn.out 4 = .frz [] := rfl
@[simp] theorem k_args4 : kn.args 4 = [[some (.i .u8)]] := rfl
@[simp] theorem k_nils4 : kn.nils 4 = fun _ => none := rfl
@[simp] theorem k_gc4 : kn.gc 4 = false := rfl
@[simp] theorem k_ali4 : kn.ali 4 = false := rfl
/-! 5: laws.FnWholes -/
@[simp] theorem c_keep5 (r : Nat) : cf.keep 5 r = tab5.getD r [] := rfl
@[simp] theorem c_pure5 : cf.pure 5 = true := rfl
@[simp] theorem c_pack5 : cf.pack 5 = .whole := rfl
@[simp] theorem c_wary5 (r : Nat) : cf.wary 5 r = false := rfl
@[simp] theorem c_clone5 : cf.clone 5 = none := rfl
@[simp] theorem k_out5 : kn.out 5 = .frz [] := rfl
@[simp] theorem k_args5 : kn.args 5 = [[some (.i .u8)]] := rfl
@[simp] theorem k_nils5 : kn.nils 5 = fun _ => none := rfl
@[simp] theorem k_gc5 : kn.gc 5 = false := rfl
@[simp] theorem k_ali5 : kn.ali 5 = false := rfl
/-! 6: laws.FnExactNatRoot -/
@[simp] theorem c_keep6 (r : Nat) : cf.keep 6 r = tab6.getD r [] := rfl
@[simp] theorem c_pure6 : cf.pure 6 = true := rfl
@[simp] theorem c_pack6 : cf.pack 6 = .whole := rfl
@[simp] theorem c_wary6 (r : Nat) : cf.wary 6 r = false := rfl
@[simp] theorem c_clone6 : cf.clone 6 = none := rfl
@[simp] theorem k_out6 : kn.out 6 = .frz [] := rfl
@[simp] theorem k_args6 : kn.args 6 = [[some (.i .i64)]] := rfl
@[simp] theorem k_nils6 : kn.nils 6 = fun _ => none := rfl
@[simp] theorem k_gc6 : kn.gc 6 = false := rfl
@[simp] theorem k_ali6 : kn.ali 6 = false := rfl
/-! 7: laws.FnNatRoots -/
@[simp] theorem c_keep7 (r : Nat) : cf.keep 7 r = tab7.getD r [] := rfl
@[simp] theorem c_pure7 : cf.pure 7 = true := rfl
@[simp] theorem c_pack7 : cf.pack 7 = .whole := rfl
@[simp] theorem c_wary7 (r : Nat) : cf.wary 7 r = false := rfl
@[simp] theorem c_clone7 : cf.clone 7 = none := rfl
@[simp] theorem k_out7 : kn.out 7 = .frz [] := rfl
@[simp] theorem k_args7 : kn.args 7 = [[some (.i .u8)]] := rfl
@[simp] theorem k_nils7 : kn.nils 7 = fun _ => none := rfl
@[simp] theorem k_gc7 : kn.gc 7 = false := rfl
@[simp] theorem k_ali7 : kn.ali 7 = false := rfl
/-! 8: laws.FnNatDivs -/
@[simp] theorem c_keep8 (r : Nat) : cf.keep 8 r = tab8.getD r [] := rfl
@[simp] theorem c_pure8 : cf.pure 8 = true := rfl
@[simp] theorem c_pack8 : cf.pack 8 = .whole := rfl
@[simp] theorem c_wary8 (r : Nat) : cf.wary 8 r = false := rfl
@[simp] theorem c_clone8 : cf.clone 8 = none := rfl
@[simp] theorem k_out8 : kn.out 8 = .frz [] := rfl
@[simp] theorem k_args8 : kn.args 8 = [[some (.i .u8)]] := rfl
@[simp] theorem k_nils8 : kn.nils 8 = fun _ => none := rfl
@[simp] theorem k_gc8 : kn.gc 8 = false := rfl
@[simp] theorem k_ali8 : kn.ali 8 = false := rfl
/-! 9: laws.FnWholeDivs -/
@[simp] theorem c_keep9 (r : Nat) : cf.keep 9 r = tab9.getD r [] := rfl
@[simp] theorem c_pure9 : cf.pure 9 = true := rfl
@[simp] theorem c_pack9 : cf.pack 9 = .whole := rfl
@[simp] theorem c_wary9 (r : Nat) : cf.wary 9 r = false := rfl
@[simp] theorem c_clone9 : cf.clone 9 = none := rfl
@[simp] theorem k_out9 : kn.out 9 = .frz [] := rfl
@[simp] theorem k_args9 : kn.args 9 = [[some (.i .u8)]] := rfl
@[simp] theorem k_nils9 : kn.nils 9 = fun _ => none := rfl
@[simp] theorem k_gc9 : kn.gc 9 = false := rfl
@[simp] theorem k_ali9 : kn.ali 9 = false := rfl
/-! 10: laws.FnExactWholeDiv -/
@[simp] theorem c_keep10 (r : Nat) : cf.keep 10 r = tab10.getD r [] := rfl
@[simp] theorem c_pure10 : cf.pure 10 = true := rfl
@[simp] theorem c_pack10 : cf.pack 10 = .whole := rfl
@[simp] theorem c_wary10 (r : Nat) : cf.wary 10 r = false := rfl
@[simp] theorem c_clone10 : cf.clone 10 = none := rfl
@[simp] theorem k_out10 : kn.out 10 = .frz [] := rfl
@[simp] theorem k_args10 : kn.args 10 = [[none, some (.i .i64)], [none, some (.i .i64)]] := rfl
@[simp] theorem k_nils10 : kn.nils 10 = fun _ => none := rfl
@[simp] theorem k_gc10 : kn.gc 10 = false := rfl
@[simp] theorem k_ali10 : kn.ali 10 = false := rfl
/-! 12: laws.FnWholeTexts -/
@[simp] theorem c_keep12 (r : Nat) : cf.keep 12 r = tab12.getD r [] := rfl
@[simp] theorem c_pure12 : cf.pure 12 = true := rfl
@[simp] theorem c_pack12 : cf.pack 12 = .whole := rfl
@[simp] theorem c_wary12 (r : Nat) : cf.wary 12 r = false := rfl
@[simp] theorem c_clone12 : cf.clone 12 = none := rfl
@[simp] theorem k_out12 : kn.out 12 = .frz [] := rfl
@[simp] theorem k_args12 : kn.args 12 = [[some (.i .u8)]] := rfl
@[simp] theorem k_nils12 : kn.nils 12 = fun _ => none := rfl
@[simp] theorem k_gc12 : kn.gc 12 = false := rfl
@[simp] theorem k_ali12 : kn.ali 12 = false := rfl
/-! 13: laws.FnExactWholeRead -/
@[simp] theorem c_keep13 (r : Nat) : cf.keep 13 r = tab13.getD r [] := rfl
@[simp] theorem c_pure13 : cf.pure 13 = true := rfl
@[simp] theorem c_pack13 : cf.pack 13 = .whole := rfl
@[simp] theorem c_wary13 (r : Nat) : cf.wary 13 r = false := rfl
@[simp] theorem c_clone13 : cf.clone 13 = none := rfl
@[simp] theorem k_out13 : kn.out 13 = .frz [] := rfl
@[simp] theorem k_args13 : kn.args 13 = [[some (.i .u8)]] := rfl
@[simp] theorem k_nils13 : kn.nils 13 = fun _ => none := rfl
@[simp] theorem k_gc13 : kn.gc 13 = false := rfl
@[simp] theorem k_ali13 : kn.ali 13 = false := rfl
/-! 14: laws.nats -/
@[simp] theorem c_keep14 (r : Nat) : cf.keep 14 r = tab14.getD r [] := rfl
@[simp] theorem c_pure14 : cf.pure 14 = true := rfl
@[simp] theorem c_pack14 : cf.pack 14 = .whole := rfl
@[simp] theorem c_wary14 (r : Nat) : cf.wary 14 r = false := rfl
@[simp] theorem c_clone14 : cf.clone 14 = none := rfl
@[simp] theorem k_out14 : kn.out 14 = .frz [] := rfl
@[simp] theorem k_args14 : kn.args 14 = [] := rfl
@[simp] theorem k_nils14 : kn.nils 14 = fun _ => none := rfl
@[simp] theorem k_gc14 : kn.gc 14 = true := rfl
@[simp] theorem k_ali14 : kn.ali 14 = false := rfl
/-! 15: spec.DrawNatAdd -/
@[simp] theorem c_keep15 (r : Nat) : cf.keep 15 r = tab15.getD r [] := rfl
@[simp] theorem c_pure15 : cf.pure 15 = true := rfl
@[simp] theorem c_pack15 : cf.pack 15 = .whole := rfl
@[simp] theorem c_wary15 (r : Nat) : cf.wary 15 r = false := rfl
@[simp] theorem c_clone15 : cf.clone 15 = none := rfl
@[simp] theorem k_out15 : kn.out 15 = .frz [[some (.i .i64)], [some (.i .i64)]] := rfl
@[simp] theorem k_args15 : kn.args 15 = [[some (.i .u8)]] := rfl
@[simp] theorem k_nils15 : kn.nils 15 = fun _ => none := rfl
@[simp] theorem k_gc15 : kn.gc 15 = false := rfl
@[simp] theorem k_ali15 : kn.ali 15 = false := rfl
/-! 16: laws.more -/
@[simp] theorem c_keep16 (r : Nat) : cf.keep 16 r = tab16.getD r [] := rfl
@[simp] theorem c_pure16 : cf.pure 16 = true := rfl
@[simp] theorem c_pack16 : cf.pack 16 = .whole := rfl
@[simp] theorem c_wary16 (r : Nat) : cf.wary 16 r = false := rfl
@[simp] theorem c_clone16 : cf.clone 16 = none := rfl
@[simp] theorem k_out16 : kn.out 16 = .own [[some (.i .u8)]] := rfl
@[simp] theorem k_args16 : kn.args 16 = [[some (.i .u8)]] := rfl
@[simp] theorem k_nils16 : kn.nils 16 = nil16 := rfl
@[simp] theorem k_gc16 : kn.gc 16 = true := rfl
@[simp] theorem k_ali16 : kn.ali 16 = false := rfl
/-! 17: impl.NatAdd -/
@[simp] theorem c_keep17 (r : Nat) : cf.keep 17 r = tab17.getD r [] := rfl
@[simp] theorem c_pure17 : cf.pure 17 = true := rfl
@[simp] theorem c_pack17 : cf.pack 17 = .whole := rfl
@[simp] theorem c_wary17 (r : Nat) : cf.wary 17 r = false := rfl
@[simp] theorem c_clone17 : cf.clone 17 = none := rfl
@[simp] theorem k_out17 : kn.out 17 = .own [[some (.i .i64)]] := rfl
@[simp] theorem k_args17 : kn.args 17 = [[some (.i .i64)], [some (.i .i64)]] := rfl
@[simp] theorem k_nils17 : kn.nils 17 = fun _ => none := rfl
@[simp] theorem k_gc17 : kn.gc 17 = true := rfl
@[simp] theorem k_ali17 : kn.ali 17 = false := rfl
/-! 18: impl.NatMul -/
@[simp] theorem c_keep18 (r : Nat) : cf.keep 18 r = tab18.getD r [] := rfl
@[simp] theorem c_pure18 : cf.pure 18 = true := rfl
@[simp] theorem c_pack18 : cf.pack 18 = .whole := rfl
@[simp] theorem c_wary18 (r : Nat) : cf.wary 18 r = false := rfl
@[simp] theorem c_clone18 : cf.clone 18 = none := rfl
@[simp] theorem k_out18 : kn.out 18 = .own [[some (.i .i64)]] := rfl
@[simp] theorem k_args18 : kn.args 18 = [[some (.i .i64)], [some (.i .i64)]] := rfl
@[simp] theorem k_nils18 : kn.nils 18 = fun _ => none := rfl
@[simp] theorem k_gc18 : kn.gc 18 = true := rfl
@[simp] theorem k_ali18 : kn.ali 18 = false := rfl
/-! 19: laws.sameNat -/
@[simp] theorem c_keep19 (r : Nat) : cf.keep 19 r = tab19.getD r [] := rfl
@[simp] theorem c_pure19 : cf.pure 19 = true := rfl
@[simp] theorem c_pack19 : cf.pack 19 = .whole := rfl
@[simp] theorem c_wary19 (r : Nat) : cf.wary 19 r = false := rfl
@[simp] theorem c_clone19 : cf.clone 19 = none := rfl
@[simp] theorem k_out19 : kn.out 19 = .frz [] := rfl
@[simp] theorem k_args19 : kn.args 19 = [[some (.i .i64)], [some (.i .i64)]] := rfl
@[simp] theorem k_nils19 : kn.nils 19 = fun _ => none := rfl
@[simp] theorem k_gc19 : kn.gc 19 = true := rfl
@[simp] theorem k_ali19 : kn.ali 19 = false := rfl
/-! 20: spec.NatOk -/
@[simp] theorem c_keep20 (r : Nat) : cf.keep 20 r = tab20.getD r [] := rfl
@[simp] theorem c_pure20 : cf.pure 20 = true := rfl
@[simp] theorem c_pack20 : cf.pack 20 = .whole := rfl
@[simp] theorem c_wary20 (r : Nat) : cf.wary 20 r = false := rfl
@[simp] theorem c_clone20 : cf.clone 20 = none := rfl
@[simp] theorem k_out20 : kn.out 20 = .frz [] := rfl
@[simp] theorem k_args20 : kn.args 20 = [[some (.i .i64)]] := rfl
@[simp] theorem k_nils20 : kn.nils 20 = fun _ => none := rfl
@[simp] theorem k_gc20 : kn.gc 20 = true := rfl
@[simp] theorem k_ali20 : kn.ali 20 = false := rfl
/-! 21: impl.NatOk -/
@[simp] theorem c_keep21 (r : Nat) : cf.keep 21 r = tab21.getD r [] := rfl
@[simp] theorem c_pure21 : cf.pure 21 = true := rfl
@[simp] theorem c_pack21 : cf.pack 21 = .whole := rfl
@[simp] theorem c_wary21 (r : Nat) : cf.wary 21 r = false := rfl
@[simp] theorem c_clone21 : cf.clone 21 = none := rfl
@[simp] theorem k_out21 : kn.out 21 = .frz [] := rfl
@[simp] theorem k_args21 : kn.args 21 = [[some (.i .i64)]] := rfl
@[simp] theorem k_nils21 : kn.nils 21 = fun _ => none := rfl
@[simp] theorem k_gc21 : kn.gc 21 = true := rfl
@[simp] theorem k_ali21 : kn.ali 21 = false := rfl
/-! 22: impl.NatSub -/
@[simp] theorem c_keep22 (r : Nat) : cf.keep 22 r = tab22.getD r [] := rfl
@[simp] theorem c_pure22 : cf.pure 22 = true := rfl
@[simp] theorem c_pack22 : cf.pack 22 = .whole := rfl
@[simp] theorem c_wary22 (r : Nat) : cf.wary 22 r = false := rfl
@[simp] theorem c_clone22 : cf.clone 22 = none := rfl
@[simp] theorem k_out22 : kn.out 22 = .own [[some (.i .i64)]] := rfl
@[simp] theorem k_args22 : kn.args 22 = [[some (.i .i64)], [some (.i .i64)]] := rfl
@[simp] theorem k_nils22 : kn.nils 22 = fun _ => none := rfl
@[simp] theorem k_gc22 : kn.gc 22 = true := rfl
@[simp] theorem k_ali22 : kn.ali 22 = false := rfl
/-! 23: spec.DrawNatText -/
@[simp] theorem c_keep23 (r : Nat) : cf.keep 23 r = tab23.getD r [] := rfl
@[simp] theorem c_pure23 : cf.pure 23 = true := rfl
@[simp] theorem c_pack23 : cf.pack 23 = .whole := rfl
@[simp] theorem c_wary23 (r : Nat) : cf.wary 23 r = false := rfl
@[simp] theorem c_clone23 : cf.clone 23 = none := rfl
@[simp] theorem k_out23 : kn.out 23 = .frz [[some (.i .i64)]] := rfl
@[simp] theorem k_args23 : kn.args 23 = [[some (.i .u8)]] := rfl
@[simp] theorem k_nils23 : kn.nils 23 = fun _ => none := rfl
@[simp] theorem k_gc23 : kn.gc 23 = false := rfl
@[simp] theorem k_ali23 : kn.ali 23 = false := rfl
/-! 24: impl.NatText -/
@[simp] theorem c_keep24 (r : Nat) : cf.keep 24 r = tab24.getD r [] := rfl
@[simp] theorem c_pure24 : cf.pure 24 = true := rfl
@[simp] theorem c_pack24 : cf.pack 24 = .whole := rfl
@[simp] theorem c_wary24 (r : Nat) : cf.wary 24 r = false := rfl
@[simp] theorem c_clone24 : cf.clone 24 = none := rfl
@[simp] theorem k_out24 : kn.out 24 = .own [[some (.i .u8)]] := rfl
@[simp] theorem k_args24 : kn.args 24 = [[some (.i .i64)]] := rfl
@[simp] theorem k_nils24 : kn.nils 24 = nil24 := rfl
@[simp] theorem k_gc24 : kn.gc 24 = true := rfl
@[simp] theorem k_ali24 : kn.ali 24 = false := rfl
/-! 25: impl.NatRead -/
@[simp] theorem c_keep25 (r : Nat) : cf.keep 25 r = tab25.getD r [] := rfl
@[simp] theorem c_pure25 : cf.pure 25 = true := rfl
@[simp] theorem c_pack25 : cf.pack 25 = .whole := rfl
@[simp] theorem c_wary25 (r : Nat) : cf.wary 25 r = false := rfl
@[simp] theorem c_clone25 : cf.clone 25 = none := rfl
@[simp] theorem k_out25 : kn.out 25 = .own [[some (.i .i64)]] := rfl
@[simp] theorem k_args25 : kn.args 25 = [[some (.i .u8)]] := rfl
@[simp] theorem k_nils25 : kn.nils 25 = fun _ => none := rfl
@[simp] theorem k_gc25 : kn.gc 25 = true := rfl
@[simp] theorem k_ali25 : kn.ali 25 = false := rfl
/-! 26: spec.DrawNatRead -/
@[simp] theorem c_keep26 (r : Nat) : cf.keep 26 r = tab26.getD r [] := rfl
@[simp] theorem c_pure26 : cf.pure 26 = true := rfl
@[simp] theorem c_pack26 : cf.pack 26 = .whole := rfl
@[simp] theorem c_wary26 (r : Nat) : cf.wary 26 r = false := rfl
@[simp] theorem c_clone26 : cf.clone 26 = none := rfl
@[simp] theorem k_out26 : kn.out 26 = .frz [[some (.i .u8)]] := rfl
@[simp] theorem k_args26 : kn.args 26 = [[some (.i .u8)]] := rfl
@[simp] theorem k_nils26 : kn.nils 26 = nil26 := rfl
@[simp] theorem k_gc26 : kn.gc 26 = false := rfl
@[simp] theorem k_ali26 : kn.ali 26 = false := rfl
/-! 27: laws.nat -/
@[simp] theorem c_keep27 (r : Nat) : cf.keep 27 r = tab27.getD r [] := rfl
@[simp] theorem c_pure27 : cf.pure 27 = true := rfl
@[simp] theorem c_pack27 : cf.pack 27 = .whole := rfl
@[simp] theorem c_wary27 (r : Nat) : cf.wary 27 r = false := rfl
@[simp] theorem c_clone27 : cf.clone 27 = none := rfl
@[simp] theorem k_out27 : kn.out 27 = .frz [[some (.i .i64)]] := rfl
@[simp] theorem k_args27 : kn.args 27 = [] := rfl
@[simp] theorem k_nils27 : kn.nils 27 = fun _ => none := rfl
@[simp] theorem k_gc27 : kn.gc 27 = true := rfl
@[simp] theorem k_ali27 : kn.ali 27 = false := rfl
/-! 28: laws.sameBytes -/
@[simp] theorem c_keep28 (r : Nat) : cf.keep 28 r = tab28.getD r [] := rfl
@[simp] theorem c_pure28 : cf.pure 28 = true := rfl
@[simp] theorem c_pack28 : cf.pack 28 = .whole := rfl
@[simp] theorem c_wary28 (r : Nat) : cf.wary 28 r = false := rfl
@[simp] theorem c_clone28 : cf.clone 28 = none := rfl
@[simp] theorem k_out28 : kn.out 28 = .frz [] := rfl
@[simp] theorem k_args28 : kn.args 28 = [[some (.i .u8)], [some (.i .u8)]] := rfl
@[simp] theorem k_nils28 : kn.nils 28 = fun _ => none := rfl
@[simp] theorem k_gc28 : kn.gc 28 = true := rfl
@[simp] theorem k_ali28 : kn.ali 28 = false := rfl
/-! 29: spec.DrawWholeAdd -/
@[simp] theorem c_keep29 (r : Nat) : cf.keep 29 r = tab29.getD r [] := rfl
@[simp] theorem c_pure29 : cf.pure 29 = true := rfl
@[simp] theorem c_pack29 : cf.pack 29 = .whole := rfl
@[simp] theorem c_wary29 (r : Nat) : cf.wary 29 r = false := rfl
@[simp] theorem c_clone29 : cf.clone 29 = none := rfl
@[simp] theorem k_out29 : kn.out 29 = .frz [[none, some (.i .i64)], [none, some (.i .i64)]] := rfl
@[simp] theorem k_args29 : kn.args 29 = [[some (.i .u8)]] := rfl
@[simp] theorem k_nils29 : kn.nils 29 = fun _ => none := rfl
@[simp] theorem k_gc29 : kn.gc 29 = false := rfl
@[simp] theorem k_ali29 : kn.ali 29 = false := rfl
/-! 30: impl.WholeAdd -/
@[simp] theorem c_keep30 (r : Nat) : cf.keep 30 r = tab30.getD r [] := rfl
@[simp] theorem c_pure30 : cf.pure 30 = true := rfl
@[simp] theorem c_pack30 : cf.pack 30 = .whole := rfl
@[simp] theorem c_wary30 (r : Nat) : cf.wary 30 r = false := rfl
@[simp] theorem c_clone30 : cf.clone 30 = none := rfl
@[simp] theorem k_out30 : kn.out 30 = .own [[none, some (.i .i64)]] := rfl
@[simp] theorem k_args30 : kn.args 30 = [[none, some (.i .i64)], [none, some (.i .i64)]] := rfl
@[simp] theorem k_nils30 : kn.nils 30 = fun _ => none := rfl
@[simp] theorem k_gc30 : kn.gc 30 = true := rfl
@[simp] theorem k_ali30 : kn.ali 30 = false := rfl
/-! 31: impl.WholeMul -/
@[simp] theorem c_keep31 (r : Nat) : cf.keep 31 r = tab31.getD r [] := rfl
@[simp] theorem c_pure31 : cf.pure 31 = true := rfl
@[simp] theorem c_pack31 : cf.pack 31 = .whole := rfl
@[simp] theorem c_wary31 (r : Nat) : cf.wary 31 r = false := rfl
@[simp] theorem c_clone31 : cf.clone 31 = none := rfl
@[simp] theorem k_out31 : kn.out 31 = .own [[none, some (.i .i64)]] := rfl
@[simp] theorem k_args31 : kn.args 31 = [[none, some (.i .i64)], [none, some (.i .i64)]] := rfl
@[simp] theorem k_nils31 : kn.nils 31 = fun _ => none := rfl
@[simp] theorem k_gc31 : kn.gc 31 = true := rfl
@[simp] theorem k_ali31 : kn.ali 31 = false := rfl
/-! 32: impl.WholeNeg -/
@[simp] theorem c_keep32 (r : Nat) : cf.keep 32 r = tab32.getD r [] := rfl
@[simp] theorem c_pure32 : cf.pure 32 = true := rfl
@[simp] theorem c_pack32 : cf.pack 32 = .whole := rfl
@[simp] theorem c_wary32 (r : Nat) : cf.wary 32 r = false := rfl
@[simp] theorem c_clone32 : cf.clone 32 = none := rfl
@[simp] theorem k_out32 : kn.out 32 = .own [[none, some (.i .i64)]] := rfl
@[simp] theorem k_args32 : kn.args 32 = [[none, some (.i .i64)]] := rfl
@[simp] theorem k_nils32 : kn.nils 32 = fun _ => none := rfl
@[simp] theorem k_gc32 : kn.gc 32 = true := rfl
@[simp] theorem k_ali32 : kn.ali 32 = false := rfl
/-! 33: spec.WholeOk -/
@[simp] theorem c_keep33 (r : Nat) : cf.keep 33 r = tab33.getD r [] := rfl
@[simp] theorem c_pure33 : cf.pure 33 = true := rfl
@[simp] theorem c_pack33 : cf.pack 33 = .whole := rfl
@[simp] theorem c_wary33 (r : Nat) : cf.wary 33 r = false := rfl
@[simp] theorem c_clone33 : cf.clone 33 = none := rfl
@[simp] theorem k_out33 : kn.out 33 = .frz [] := rfl
@[simp] theorem k_args33 : kn.args 33 = [[none, some (.i .i64)]] := rfl
@[simp] theorem k_nils33 : kn.nils 33 = fun _ => none := rfl
@[simp] theorem k_gc33 : kn.gc 33 = true := rfl
@[simp] theorem k_ali33 : kn.ali 33 = false := rfl
/-! 34: impl.WholeOk -/
@[simp] theorem c_keep34 (r : Nat) : cf.keep 34 r = tab34.getD r [] := rfl
@[simp] theorem c_pure34 : cf.pure 34 = true := rfl
@[simp] theorem c_pack34 : cf.pack 34 = .whole := rfl
@[simp] theorem c_wary34 (r : Nat) : cf.wary 34 r = false := rfl
@[simp] theorem c_clone34 : cf.clone 34 = none := rfl
@[simp] theorem k_out34 : kn.out 34 = .frz [] := rfl
@[simp] theorem k_args34 : kn.args 34 = [[none, some (.i .i64)]] := rfl
@[simp] theorem k_nils34 : kn.nils 34 = fun _ => none := rfl
@[simp] theorem k_gc34 : kn.gc 34 = true := rfl
@[simp] theorem k_ali34 : kn.ali 34 = false := rfl
/-! 35: laws.sameWhole -/
@[simp] theorem c_keep35 (r : Nat) : cf.keep 35 r = tab35.getD r [] := rfl
@[simp] theorem c_pure35 : cf.pure 35 = true := rfl
@[simp] theorem c_pack35 : cf.pack 35 = .whole := rfl
@[simp] theorem c_wary35 (r : Nat) : cf.wary 35 r = false := rfl
@[simp] theorem c_clone35 : cf.clone 35 = none := rfl
@[simp] theorem k_out35 : kn.out 35 = .frz [] := rfl
@[simp] theorem k_args35 : kn.args 35 = [[none, some (.i .i64)], [none, some (.i .i64)]] := rfl
@[simp] theorem k_nils35 : kn.nils 35 = fun _ => none := rfl
@[simp] theorem k_gc35 : kn.gc 35 = true := rfl
@[simp] theorem k_ali35 : kn.ali 35 = false := rfl
/-! 36: impl.WholeOf -/
@[simp] theorem c_keep36 (r : Nat) : cf.keep 36 r = tab36.getD r [] := rfl
@[simp] theorem c_pure36 : cf.pure 36 = true := rfl
@[simp] theorem c_pack36 : cf.pack 36 = .whole := rfl
@[simp] theorem c_wary36 (r : Nat) : cf.wary 36 r = false := rfl
@[simp] theorem c_clone36 : cf.clone 36 = none := rfl
@[simp] theorem k_out36 : kn.out 36 = .own [[none, some (.i .i64)]] := rfl
@[simp] theorem k_args36 : kn.args 36 = [] := rfl
@[simp] theorem k_nils36 : kn.nils 36 = fun _ => none := rfl
@[simp] theorem k_gc36 : kn.gc 36 = true := rfl
@[simp] theorem k_ali36 : kn.ali 36 = false := rfl
/-! 37: impl.WholeSub -/
@[simp] theorem c_keep37 (r : Nat) : cf.keep 37 r = tab37.getD r [] := rfl
@[simp] theorem c_pure37 : cf.pure 37 = true := rfl
@[simp] theorem c_pack37 : cf.pack 37 = .whole := rfl
@[simp] theorem c_wary37 (r : Nat) : cf.wary 37 r = false := rfl
@[simp] theorem c_clone37 : cf.clone 37 = none := rfl
@[simp] theorem k_out37 : kn.out 37 = .own [[none, some (.i .i64)]] := rfl
@[simp] theorem k_args37 : kn.args 37 = [[none, some (.i .i64)], [none, some (.i .i64)]] := rfl
@[simp] theorem k_nils37 : kn.nils 37 = fun _ => none := rfl
@[simp] theorem k_gc37 : kn.gc 37 = true := rfl
@[simp] theorem k_ali37 : kn.ali 37 = false := rfl
/-! 38: impl.WholeCmp -/
@[simp] theorem c_keep38 (r : Nat) : cf.keep 38 r = tab38.getD r [] := rfl
@[simp] theorem c_pure38 : cf.pure 38 = true := rfl
@[simp] theorem c_pack38 : cf.pack 38 = .whole := rfl
@[simp] theorem c_wary38 (r : Nat) : cf.wary 38 r = false := rfl
@[simp] theorem c_clone38 : cf.clone 38 = none := rfl
@[simp] theorem k_out38 : kn.out 38 = .frz [] := rfl
@[simp] theorem k_args38 : kn.args 38 = [[none, some (.i .i64)], [none, some (.i .i64)]] := rfl
@[simp] theorem k_nils38 : kn.nils 38 = fun _ => none := rfl
@[simp] theorem k_gc38 : kn.gc 38 = true := rfl
@[simp] theorem k_ali38 : kn.ali 38 = false := rfl
/-! 39: laws.szNat -/
@[simp] theorem c_keep39 (r : Nat) : cf.keep 39 r = tab39.getD r [] := rfl
@[simp] theorem c_pure39 : cf.pure 39 = true := rfl
@[simp] theorem c_pack39 : cf.pack 39 = .whole := rfl
@[simp] theorem c_wary39 (r : Nat) : cf.wary 39 r = false := rfl
@[simp] theorem c_clone39 : cf.clone 39 = none := rfl
@[simp] theorem k_out39 : kn.out 39 = .frz [] := rfl
@[simp] theorem k_args39 : kn.args 39 = [[some (.i .i64)]] := rfl
@[simp] theorem k_nils39 : kn.nils 39 = fun _ => none := rfl
@[simp] theorem k_gc39 : kn.gc 39 = true := rfl
@[simp] theorem k_ali39 : kn.ali 39 = false := rfl
/-! 40: spec.NatRoot -/
@[simp] theorem c_keep40 (r : Nat) : cf.keep 40 r = tab40.getD r [] := rfl
@[simp] theorem c_pure40 : cf.pure 40 = true := rfl
@[simp] theorem c_pack40 : cf.pack 40 = .whole := rfl
@[simp] theorem c_wary40 (r : Nat) : cf.wary 40 r = false := rfl
@[simp] theorem c_clone40 : cf.clone 40 = none := rfl
@[simp] theorem k_out40 : kn.out 40 = .frz [[some (.i .i64)]] := rfl
@[simp] theorem k_args40 : kn.args 40 = [[some (.i .i64)]] := rfl
@[simp] theorem k_nils40 : kn.nils 40 = fun _ => none := rfl
@[simp] theorem k_gc40 : kn.gc 40 = true := rfl
@[simp] theorem k_ali40 : kn.ali 40 = false := rfl
/-! 41: laws.toNat -/
@[simp] theorem c_keep41 (r : Nat) : cf.keep 41 r = tab41.getD r [] := rfl
@[simp] theorem c_pure41 : cf.pure 41 = true := rfl
@[simp] theorem c_pack41 : cf.pack 41 = .whole := rfl
@[simp] theorem c_wary41 (r : Nat) : cf.wary 41 r = false := rfl
@[simp] theorem c_clone41 : cf.clone 41 = none := rfl
@[simp] theorem k_out41 : kn.out 41 = .own [[some (.i .i64)]] := rfl
@[simp] theorem k_args41 : kn.args 41 = [[some (.i .i64)]] := rfl
@[simp] theorem k_nils41 : kn.nils 41 = fun _ => none := rfl
@[simp] theorem k_gc41 : kn.gc 41 = true := rfl
@[simp] theorem k_ali41 : kn.ali 41 = false := rfl
/-! 42: impl.NatRoot -/
@[simp] theorem c_keep42 (r : Nat) : cf.keep 42 r = tab42.getD r [] := rfl
@[simp] theorem c_pure42 : cf.pure 42 = true := rfl
@[simp] theorem c_pack42 : cf.pack 42 = .whole := rfl
@[simp] theorem c_wary42 (r : Nat) : cf.wary 42 r = false := rfl
@[simp] theorem c_clone42 : cf.clone 42 = none := rfl
@[simp] theorem k_out42 : kn.out 42 = .own [[some (.i .i64)]] := rfl
@[simp] theorem k_args42 : kn.args 42 = [[some (.i .i64)]] := rfl
@[simp] theorem k_nils42 : kn.nils 42 = fun _ => none := rfl
@[simp] theorem k_gc42 : kn.gc 42 = true := rfl
@[simp] theorem k_ali42 : kn.ali 42 = false := rfl
/-! 43: laws.eqNat -/
@[simp] theorem c_keep43 (r : Nat) : cf.keep 43 r = tab43.getD r [] := rfl
@[simp] theorem c_pure43 : cf.pure 43 = true := rfl
@[simp] theorem c_pack43 : cf.pack 43 = .whole := rfl
@[simp] theorem c_wary43 (r : Nat) : cf.wary 43 r = false := rfl
@[simp] theorem c_clone43 : cf.clone 43 = none := rfl
@[simp] theorem k_out43 : kn.out 43 = .frz [] := rfl
@[simp] theorem k_args43 : kn.args 43 = [[some (.i .i64)], [some (.i .i64)]] := rfl
@[simp] theorem k_nils43 : kn.nils 43 = fun _ => none := rfl
@[simp] theorem k_gc43 : kn.gc 43 = true := rfl
@[simp] theorem k_ali43 : kn.ali 43 = false := rfl
/-! 44: laws.markNat -/
@[simp] theorem c_keep44 (r : Nat) : cf.keep 44 r = tab44.getD r [] := rfl
@[simp] theorem c_pure44 : cf.pure 44 = false := rfl
@[simp] theorem c_pack44 : cf.pack 44 = .whole := rfl
@[simp] theorem c_wary44 (r : Nat) : cf.wary 44 r = false := rfl
@[simp] theorem c_clone44 : cf.clone 44 = none := rfl
@[simp] theorem k_out44 : kn.out 44 = .inl := rfl
@[simp] theorem k_args44 : kn.args 44 = [] := rfl
@[simp] theorem k_nils44 : kn.nils 44 = fun _ => none := rfl
@[simp] theorem k_gc44 : kn.gc 44 = false := rfl
@[simp] theorem k_ali44 : kn.ali 44 = false := rfl
/-! 45: laws.heldNat -/
@[simp] theorem c_keep45 (r : Nat) : cf.keep 45 r = tab45.getD r [] := rfl
@[simp] theorem c_pure45 : cf.pure 45 = true := rfl
@[simp] theorem c_pack45 : cf.pack 45 = .whole := rfl
@[simp] theorem c_wary45 (r : Nat) : cf.wary 45 r = false := rfl
@[simp] theorem c_clone45 : cf.clone 45 = none := rfl
@[simp] theorem k_out45 : kn.out 45 = .frz [] := rfl
@[simp] theorem k_args45 : kn.args 45 = [[some (.i .i64)]] := rfl
@[simp] theorem k_nils45 : kn.nils 45 = fun _ => none := rfl
@[simp] theorem k_gc45 : kn.gc 45 = true := rfl
@[simp] theorem k_ali45 : kn.ali 45 = false := rfl
/-! 46: spec.DrawNatRoot -/
@[simp] theorem c_keep46 (r : Nat) : cf.keep 46 r = tab46.getD r [] := rfl
@[simp] theorem c_pure46 : cf.pure 46 = true := rfl
@[simp] theorem c_pack46 : cf.pack 46 = .whole := rfl
@[simp] theorem c_wary46 (r : Nat) : cf.wary 46 r = false := rfl
@[simp] theorem c_clone46 : cf.clone 46 = none := rfl
@[simp] theorem k_out46 : kn.out 46 = .frz [[some (.i .i64)]] := rfl
@[simp] theorem k_args46 : kn.args 46 = [[some (.i .u8)]] := rfl
@[simp] theorem k_nils46 : kn.nils 46 = fun _ => none := rfl
@[simp] theorem k_gc46 : kn.gc 46 = false := rfl
@[simp] theorem k_ali46 : kn.ali 46 = false := rfl
/-! 47: impl.NatCmp -/
@[simp] theorem c_keep47 (r : Nat) : cf.keep 47 r = tab47.getD r [] := rfl
@[simp] theorem c_pure47 : cf.pure 47 = true := rfl
@[simp] theorem c_pack47 : cf.pack 47 = .whole := rfl
@[simp] theorem c_wary47 (r : Nat) : cf.wary 47 r = false := rfl
@[simp] theorem c_clone47 : cf.clone 47 = none := rfl
@[simp] theorem k_out47 : kn.out 47 = .frz [] := rfl
@[simp] theorem k_args47 : kn.args 47 = [[some (.i .i64)], [some (.i .i64)]] := rfl
@[simp] theorem k_nils47 : kn.nils 47 = fun _ => none := rfl
@[simp] theorem k_gc47 : kn.gc 47 = true := rfl
@[simp] theorem k_ali47 : kn.ali 47 = false := rfl
/-! 48: spec.DrawNatDiv -/
@[simp] theorem c_keep48 (r : Nat) : cf.keep 48 r = tab48.getD r [] := rfl
@[simp] theorem c_pure48 : cf.pure 48 = true := rfl
@[simp] theorem c_pack48 : cf.pack 48 = .whole := rfl
@[simp] theorem c_wary48 (r : Nat) : cf.wary 48 r = (true) := rfl
@[simp] theorem c_clone48 : cf.clone 48 = none := rfl
@[simp] theorem k_out48 : kn.out 48 = .frz [[some (.i .i64)], [some (.i .i64)]] := rfl
@[simp] theorem k_args48 : kn.args 48 = [[some (.i .u8)]] := rfl
@[simp] theorem k_nils48 : kn.nils 48 = fun _ => none := rfl
@[simp] theorem k_gc48 : kn.gc 48 = false := rfl
@[simp] theorem k_ali48 : kn.ali 48 = false := rfl
/-! 49: impl.NatDiv -/
@[simp] theorem c_keep49 (r : Nat) : cf.keep 49 r = tab49.getD r [] := rfl
@[simp] theorem c_pure49 : cf.pure 49 = true := rfl
@[simp] theorem c_pack49 : cf.pack 49 = .whole := rfl
@[simp] theorem c_wary49 (r : Nat) : cf.wary 49 r = false := rfl
@[simp] theorem c_clone49 : cf.clone 49 = none := rfl
@[simp] theorem k_out49 : kn.out 49 = .own [[some (.i .i64)], [some (.i .i64)]] := rfl
@[simp] theorem k_args49 : kn.args 49 = [[some (.i .i64)], [some (.i .i64)]] := rfl
@[simp] theorem k_nils49 : kn.nils 49 = fun _ => none := rfl
@[simp] theorem k_gc49 : kn.gc 49 = true := rfl
@[simp] theorem k_ali49 : kn.ali 49 = false := rfl
/-! 50: spec.DrawWholeDiv -/
@[simp] theorem c_keep50 (r : Nat) : cf.keep 50 r = tab50.getD r [] := rfl
@[simp] theorem c_pure50 : cf.pure 50 = true := rfl
@[simp] theorem c_pack50 : cf.pack 50 = .whole := rfl
@[simp] theorem c_wary50 (r : Nat) : cf.wary 50 r = false := rfl
@[simp] theorem c_clone50 : cf.clone 50 = none := rfl
@[simp] theorem k_out50 : kn.out 50 = .frz [[none, some (.i .i64)], [none, some (.i .i64)]] := rfl
@[simp] theorem k_args50 : kn.args 50 = [[some (.i .u8)]] := rfl
@[simp] theorem k_nils50 : kn.nils 50 = fun _ => none := rfl
@[simp] theorem k_gc50 : kn.gc 50 = false := rfl
@[simp] theorem k_ali50 : kn.ali 50 = false := rfl
/-! 51: impl.WholeDiv -/
@[simp] theorem c_keep51 (r : Nat) : cf.keep 51 r = tab51.getD r [] := rfl
@[simp] theorem c_pure51 : cf.pure 51 = true := rfl
@[simp] theorem c_pack51 : cf.pack 51 = .whole := rfl
@[simp] theorem c_wary51 (r : Nat) : cf.wary 51 r = false := rfl
@[simp] theorem c_clone51 : cf.clone 51 = none := rfl
@[simp] theorem k_out51 : kn.out 51 = .own [[none, some (.i .i64)], [none, some (.i .i64)]] := rfl
@[simp] theorem k_args51 : kn.args 51 = [[none, some (.i .i64)], [none, some (.i .i64)]] := rfl
@[simp] theorem k_nils51 : kn.nils 51 = fun _ => none := rfl
@[simp] theorem k_gc51 : kn.gc 51 = true := rfl
@[simp] theorem k_ali51 : kn.ali 51 = false := rfl
/-! 52: laws.szWhole -/
@[simp] theorem c_keep52 (r : Nat) : cf.keep 52 r = tab52.getD r [] := rfl
@[simp] theorem c_pure52 : cf.pure 52 = true := rfl
@[simp] theorem c_pack52 : cf.pack 52 = .whole := rfl
@[simp] theorem c_wary52 (r : Nat) : cf.wary 52 r = false := rfl
@[simp] theorem c_clone52 : cf.clone 52 = none := rfl
@[simp] theorem k_out52 : kn.out 52 = .frz [] := rfl
@[simp] theorem k_args52 : kn.args 52 = [[none, some (.i .i64)]] := rfl
@[simp] theorem k_nils52 : kn.nils 52 = fun _ => none := rfl
@[simp] theorem k_gc52 : kn.gc 52 = true := rfl
@[simp] theorem k_ali52 : kn.ali 52 = false := rfl
/-! 53: spec.WholeDiv -/
@[simp] theorem c_keep53 (r : Nat) : cf.keep 53 r = tab53.getD r [] := rfl
@[simp] theorem c_pure53 : cf.pure 53 = true := rfl
@[simp] theorem c_pack53 : cf.pack 53 = .whole := rfl
@[simp] theorem c_wary53 (r : Nat) : cf.wary 53 r = (true) := rfl
@[simp] theorem c_clone53 : cf.clone 53 = none := rfl
@[simp] theorem k_out53 : kn.out 53 = .frz [[none, some (.i .i64)], [none, some (.i .i64)]] := rfl
@[simp] theorem k_args53 : kn.args 53 = [[none, some (.i .i64)], [none, some (.i .i64)]] := rfl
@[simp] theorem k_nils53 : kn.nils 53 = fun _ => none := rfl
@[simp] theorem k_gc53 : kn.gc 53 = true := rfl
@[simp] theorem k_ali53 : kn.ali 53 = false := rfl
/-! 54: laws.toWhole -/
@[simp] theorem c_keep54 (r : Nat) : cf.keep 54 r = tab54.getD r [] := rfl
@[simp] theorem c_pure54 : cf.pure 54 = true := rfl
@[simp] theorem c_pack54 : cf.pack 54 = .whole := rfl
@[simp] theorem c_wary54 (r : Nat) : cf.wary 54 r = false := rfl
@[simp] theorem c_clone54 : cf.clone 54 = none := rfl
@[simp] theorem k_out54 : kn.out 54 = .own [[none, some (.i .i64)]] := rfl
@[simp] theorem k_args54 : kn.args 54 = [[none, some (.i .i64)]] := rfl
@[simp] theorem k_nils54 : kn.nils 54 = fun _ => none := rfl
@[simp] theorem k_gc54 : kn.gc 54 = true := rfl
@[simp] theorem k_ali54 : kn.ali 54 = false := rfl
/-! 55: laws.eqWhole -/
@[simp] theorem c_keep55 (r : Nat) : cf.keep 55 r = tab55.getD r [] := rfl
@[simp] theorem c_pure55 : cf.pure 55 = true := rfl
@[simp] theorem c_pack55 : cf.pack 55 = .whole := rfl
@[simp] theorem c_wary55 (r : Nat) : cf.wary 55 r = false := rfl
@[simp] theorem c_clone55 : cf.clone 55 = none := rfl
@[simp] theorem k_out55 : kn.out 55 = .frz [] := rfl
@[simp] theorem k_args55 : kn.args 55 = [[none, some (.i .i64)], [none, some (.i .i64)]] := rfl
@[simp] theorem k_nils55 : kn.nils 55 = fun _ => none := rfl
@[simp] theorem k_gc55 : kn.gc 55 = true := rfl
@[simp] theorem k_ali55 : kn.ali 55 = false := rfl
/-! 56: laws.markWhole -/
@[simp] theorem c_keep56 (r : Nat) : cf.keep 56 r = tab56.getD r [] := rfl
@[simp] theorem c_pure56 : cf.pure 56 = false := rfl
@[simp] theorem c_pack56 : cf.pack 56 = .whole := rfl
@[simp] theorem c_wary56 (r : Nat) : cf.wary 56 r = false := rfl
@[simp] theorem c_clone56 : cf.clone 56 = none := rfl
@[simp] theorem k_out56 : kn.out 56 = .inl := rfl
@[simp] theorem k_args56 : kn.args 56 = [] := rfl
@[simp] theorem k_nils56 : kn.nils 56 = fun _ => none := rfl
@[simp] theorem k_gc56 : kn.gc 56 = false := rfl
@[simp] theorem k_ali56 : kn.ali 56 = false := rfl
/-! 57: laws.heldWhole -/
@[simp] theorem c_keep57 (r : Nat) : cf.keep 57 r = tab57.getD r [] := rfl
@[simp] theorem c_pure57 : cf.pure 57 = true := rfl
@[simp] theorem c_pack57 : cf.pack 57 = .whole := rfl
@[simp] theorem c_wary57 (r : Nat) : cf.wary 57 r = false := rfl
@[simp] theorem c_clone57 : cf.clone 57 = none := rfl
@[simp] theorem k_out57 : kn.out 57 = .frz [] := rfl
@[simp] theorem k_args57 : kn.args 57 = [[none, some (.i .i64)]] := rfl
@[simp] theorem k_nils57 : kn.nils 57 = fun _ => none := rfl
@[simp] theorem k_gc57 : kn.gc 57 = true := rfl
@[simp] theorem k_ali57 : kn.ali 57 = false := rfl
/-! 59: impl.Plain -/
@[simp] theorem c_keep59 (r : Nat) : cf.keep 59 r = tab59.getD r [] := rfl
@[simp] theorem c_pure59 : cf.pure 59 = true := rfl
@[simp] theorem c_pack59 : cf.pack 59 = .whole := rfl
@[simp] theorem c_wary59 (r : Nat) : cf.wary 59 r = false := rfl
@[simp] theorem c_clone59 : cf.clone 59 = none := rfl
@[simp] theorem k_out59 : kn.out 59 = .own [[some (.i .u8)]] := rfl
@[simp] theorem k_args59 : kn.args 59 = [[some (.i .u8)]] := rfl
@[simp] theorem k_nils59 : kn.nils 59 = nil59 := rfl
@[simp] theorem k_gc59 : kn.gc 59 = true := rfl
@[simp] theorem k_ali59 : kn.ali 59 = false := rfl
/-! 61: impl.WholeRead -/
@[simp] theorem c_keep61 (r : Nat) : cf.keep 61 r = tab61.getD r [] := rfl
@[simp] theorem c_pure61 : cf.pure 61 = true := rfl
@[simp] theorem c_pack61 : cf.pack 61 = .whole := rfl
@[simp] theorem c_wary61 (r : Nat) : cf.wary 61 r = false := rfl
@[simp] theorem c_clone61 : cf.clone 61 = none := rfl
@[simp] theorem k_out61 : kn.out 61 = .own [[none, some (.i .i64)]] := rfl
@[simp] theorem k_args61 : kn.args 61 = [[some (.i .u8)]] := rfl
@[simp] theorem k_nils61 : kn.nils 61 = fun _ => none := rfl
@[simp] theorem k_gc61 : kn.gc 61 = true := rfl
@[simp] theorem k_ali61 : kn.ali 61 = false := rfl
/-! 62: impl.Runes -/
@[simp] theorem c_keep62 (r : Nat) : cf.keep 62 r = tab62.getD r [] := rfl
@[simp] theorem c_pure62 : cf.pure 62 = true := rfl
@[simp] theorem c_pack62 : cf.pack 62 = .whole := rfl
@[simp] theorem c_wary62 (r : Nat) : cf.wary 62 r = false := rfl
@[simp] theorem c_clone62 : cf.clone 62 = none := rfl
@[simp] theorem k_out62 : kn.out 62 = .own [[some (.i .i64)]] := rfl
@[simp] theorem k_args62 : kn.args 62 = [[some (.i .u8)]] := rfl
@[simp] theorem k_nils62 : kn.nils 62 = nil62 := rfl
@[simp] theorem k_gc62 : kn.gc 62 = true := rfl
@[simp] theorem k_ali62 : kn.ali 62 = false := rfl
/-! 63: impl.DigitOf -/
@[simp] theorem c_keep63 (r : Nat) : cf.keep 63 r = tab63.getD r [] := rfl
@[simp] theorem c_pure63 : cf.pure 63 = true := rfl
@[simp] theorem c_pack63 : cf.pack 63 = .whole := rfl
@[simp] theorem c_wary63 (r : Nat) : cf.wary 63 r = false := rfl
@[simp] theorem c_clone63 : cf.clone 63 = none := rfl
@[simp] theorem k_out63 : kn.out 63 = .frz [] := rfl
@[simp] theorem k_args63 : kn.args 63 = [] := rfl
@[simp] theorem k_nils63 : kn.nils 63 = fun _ => none := rfl
@[simp] theorem k_gc63 : kn.gc 63 = true := rfl
@[simp] theorem k_ali63 : kn.ali 63 = false := rfl
/-! 64: impl.IsBlank -/
@[simp] theorem c_keep64 (r : Nat) : cf.keep 64 r = tab64.getD r [] := rfl
@[simp] theorem c_pure64 : cf.pure 64 = true := rfl
@[simp] theorem c_pack64 : cf.pack 64 = .whole := rfl
@[simp] theorem c_wary64 (r : Nat) : cf.wary 64 r = false := rfl
@[simp] theorem c_clone64 : cf.clone 64 = none := rfl
@[simp] theorem k_out64 : kn.out 64 = .frz [] := rfl
@[simp] theorem k_args64 : kn.args 64 = [] := rfl
@[simp] theorem k_nils64 : kn.nils 64 = fun _ => none := rfl
@[simp] theorem k_gc64 : kn.gc 64 = true := rfl
@[simp] theorem k_ali64 : kn.ali 64 = false := rfl
/-! 65: impl.SignOf -/
@[simp] theorem c_keep65 (r : Nat) : cf.keep 65 r = tab65.getD r [] := rfl
@[simp] theorem c_pure65 : cf.pure 65 = true := rfl
@[simp] theorem c_pack65 : cf.pack 65 = .whole := rfl
@[simp] theorem c_wary65 (r : Nat) : cf.wary 65 r = false := rfl
@[simp] theorem c_clone65 : cf.clone 65 = none := rfl
@[simp] theorem k_out65 : kn.out 65 = .frz [] := rfl
@[simp] theorem k_args65 : kn.args 65 = [] := rfl
@[simp] theorem k_nils65 : kn.nils 65 = fun _ => none := rfl
@[simp] theorem k_gc65 : kn.gc 65 = true := rfl
@[simp] theorem k_ali65 : kn.ali 65 = false := rfl
/-! 66: spec.DrawWholeText -/
@[simp] theorem c_keep66 (r : Nat) : cf.keep 66 r = tab66.getD r [] := rfl
@[simp] theorem c_pure66 : cf.pure 66 = true := rfl
@[simp] theorem c_pack66 : cf.pack 66 = .whole := rfl
@[simp] theorem c_wary66 (r : Nat) : cf.wary 66 r = false := rfl
@[simp] theorem c_clone66 : cf.clone 66 = none := rfl
@[simp] theorem k_out66 : kn.out 66 = .frz [[none, some (.i .i64)]] := rfl
@[simp] theorem k_args66 : kn.args 66 = [[some (.i .u8)]] := rfl
@[simp] theorem k_nils66 : kn.nils 66 = fun _ => none := rfl
@[simp] theorem k_gc66 : kn.gc 66 = false := rfl
@[simp] theorem k_ali66 : kn.ali 66 = false := rfl
/-! 67: impl.WholeText -/
@[simp] theorem c_keep67 (r : Nat) : cf.keep 67 r = tab67.getD r [] := rfl
@[simp] theorem c_pure67 : cf.pure 67 = true := rfl
@[simp] theorem c_pack67 : cf.pack 67 = .whole := rfl
@[simp] theorem c_wary67 (r : Nat) : cf.wary 67 r = false := rfl
@[simp] theorem c_clone67 : cf.clone 67 = none := rfl
@[simp] theorem k_out67 : kn.out 67 = .own [[some (.i .u8)]] := rfl
@[simp] theorem k_args67 : kn.args 67 = [[none, some (.i .i64)]] := rfl
@[simp] theorem k_nils67 : kn.nils 67 = nil67 := rfl
@[simp] theorem k_gc67 : kn.gc 67 = true := rfl
@[simp] theorem k_ali67 : kn.ali 67 = false := rfl
/-! 68: spec.WholeRead -/
@[simp] theorem c_keep68 (r : Nat) : cf.keep 68 r = tab68.getD r [] := rfl
@[simp] theorem c_pure68 : cf.pure 68 = true := rfl
@[simp] theorem c_pack68 : cf.pack 68 = .whole := rfl
@[simp] theorem c_wary68 (r : Nat) : cf.wary 68 r = false := rfl
@[simp] theorem c_clone68 : cf.clone 68 = none := rfl
@[simp] theorem k_out68 : kn.out 68 = .frz [[none, some (.i .i64)]] := rfl
@[simp] theorem k_args68 : kn.args 68 = [[some (.i .u8)]] := rfl
@[simp] theorem k_nils68 : kn.nils 68 = fun _ => none := rfl
@[simp] theorem k_gc68 : kn.gc 68 = true := rfl
@[simp] theorem k_ali68 : kn.ali 68 = false := rfl
/-! 69: laws.toByteS -/
@[simp] theorem c_keep69 (r : Nat) : cf.keep 69 r = tab69.getD r [] := rfl
@[simp] theorem c_pure69 : cf.pure 69 = true := rfl
@[simp] theorem c_pack69 : cf.pack 69 = .whole := rfl
@[simp] theorem c_wary69 (r : Nat) : cf.wary 69 r = false := rfl
@[simp] theorem c_clone69 : cf.clone 69 = none := rfl
@[simp] theorem k_out69 : kn.out 69 = .own [[some (.i .u8)]] := rfl
@[simp] theorem k_args69 : kn.args 69 = [[some (.i .u8)]] := rfl
@[simp] theorem k_nils69 : kn.nils 69 = nil69 := rfl
@[simp] theorem k_gc69 : kn.gc 69 = true := rfl
@[simp] theorem k_ali69 : kn.ali 69 = false := rfl
/-! 70: laws.eqByteS -/
@[simp] theorem c_keep70 (r : Nat) : cf.keep 70 r = tab70.getD r [] := rfl
@[simp] theorem c_pure70 : cf.pure 70 = true := rfl
@[simp] theorem c_pack70 : cf.pack 70 = .whole := rfl
@[simp] theorem c_wary70 (r : Nat) : cf.wary 70 r = false := rfl
@[simp] theorem c_clone70 : cf.clone 70 = none := rfl
@[simp] theorem k_out70 : kn.out 70 = .frz [] := rfl
@[simp] theorem k_args70 : kn.args 70 = [[some (.i .u8)], [some (.i .u8)]] := rfl
@[simp] theorem k_nils70 : kn.nils 70 = fun _ => none := rfl
@[simp] theorem k_gc70 : kn.gc 70 = true := rfl
@[simp] theorem k_ali70 : kn.ali 70 = false := rfl
/-! 71: laws.markByteS -/
@[simp] theorem c_keep71 (r : Nat) : cf.keep 71 r = tab71.getD r [] := rfl
@[simp] theorem c_pure71 : cf.pure 71 = false := rfl
@[simp] theorem c_pack71 : cf.pack 71 = .whole := rfl
@[simp] theorem c_wary71 (r : Nat) : cf.wary 71 r = false := rfl
@[simp] theorem c_clone71 : cf.clone 71 = none := rfl
@[simp] theorem k_out71 : kn.out 71 = .inl := rfl
@[simp] theorem k_args71 : kn.args 71 = [] := rfl
@[simp] theorem k_nils71 : kn.nils 71 = fun _ => none := rfl
@[simp] theorem k_gc71 : kn.gc 71 = false := rfl
@[simp] theorem k_ali71 : kn.ali 71 = false := rfl
/-! 72: spec.DrawNatCmp -/
@[simp] theorem c_keep72 (r : Nat) : cf.keep 72 r = tab72.getD r [] := rfl
@[simp] theorem c_pure72 : cf.pure 72 = true := rfl
@[simp] theorem c_pack72 : cf.pack 72 = .whole := rfl
@[simp] theorem c_wary72 (r : Nat) : cf.wary 72 r = (true) := rfl
@[simp] theorem c_clone72 : cf.clone 72 = none := rfl
@[simp] theorem k_out72 : kn.out 72 = .frz [[some (.i .i64)], [some (.i .i64)]] := rfl
@[simp] theorem k_args72 : kn.args 72 = [[some (.i .u8)]] := rfl
@[simp] theorem k_nils72 : kn.nils 72 = fun _ => none := rfl
@[simp] theorem k_gc72 : kn.gc 72 = false := rfl
@[simp] theorem k_ali72 : kn.ali 72 = false := rfl
/-! 73: impl.areNats -/
@[simp] theorem c_keep73 (r : Nat) : cf.keep 73 r = tab73.getD r [] := rfl
@[simp] theorem c_pure73 : cf.pure 73 = true := rfl
@[simp] theorem c_pack73 : cf.pack 73 = .whole := rfl
@[simp] theorem c_wary73 (r : Nat) : cf.wary 73 r = false := rfl
@[simp] theorem c_clone73 : cf.clone 73 = none := rfl
@[simp] theorem k_out73 : kn.out 73 = .frz [] := rfl
@[simp] theorem k_args73 : kn.args 73 = [[some (.i .i64)], [some (.i .i64)]] := rfl
@[simp] theorem k_nils73 : kn.nils 73 = fun _ => none := rfl
@[simp] theorem k_gc73 : kn.gc 73 = true := rfl
@[simp] theorem k_ali73 : kn.ali 73 = false := rfl
/-! 74: impl.natOf -/
@[simp] theorem c_keep74 (r : Nat) : cf.keep 74 r = tab74.getD r [] := rfl
@[simp] theorem c_pure74 : cf.pure 74 = true := rfl
@[simp] theorem c_pack74 : cf.pack 74 = .whole := rfl
@[simp] theorem c_wary74 (r : Nat) : cf.wary 74 r = false := rfl
@[simp] theorem c_clone74 : cf.clone 74 = none := rfl
@[simp] theorem k_out74 : kn.out 74 = .own [[some (.i .i64)]] := rfl
@[simp] theorem k_args74 : kn.args 74 = [[some (.i .i64)]] := rfl
@[simp] theorem k_nils74 : kn.nils 74 = fun _ => none := rfl
@[simp] theorem k_gc74 : kn.gc 74 = true := rfl
@[simp] theorem k_ali74 : kn.ali 74 = false := rfl
/-! 75: impl.plus -/
@[simp] theorem c_keep75 (r : Nat) : cf.keep 75 r = tab75.getD r [] := rfl
@[simp] theorem c_pure75 : cf.pure 75 = true := rfl
@[simp] theorem c_pack75 : cf.pack 75 = .whole := rfl
@[simp] theorem c_wary75 (r : Nat) : cf.wary 75 r = false := rfl
@[simp] theorem c_clone75 : cf.clone 75 = none := rfl
@[simp] theorem k_out75 : kn.out 75 = .own [[some (.i .i64)]] := rfl
@[simp] theorem k_args75 : kn.args 75 = [[some (.i .i64)], [some (.i .i64)]] := rfl
@[simp] theorem k_nils75 : kn.nils 75 = nil75 := rfl
@[simp] theorem k_gc75 : kn.gc 75 = true := rfl
@[simp] theorem k_ali75 : kn.ali 75 = false := rfl
/-! 76: impl.times -/
@[simp] theorem c_keep76 (r : Nat) : cf.keep 76 r = tab76.getD r [] := rfl
@[simp] theorem c_pure76 : cf.pure 76 = true := rfl
@[simp] theorem c_pack76 : cf.pack 76 = .whole := rfl
@[simp] theorem c_wary76 (r : Nat) : cf.wary 76 r = false := rfl
@[simp] theorem c_clone76 : cf.clone 76 = none := rfl
@[simp] theorem k_out76 : kn.out 76 = .own [[some (.i .i64)]] := rfl
@[simp] theorem k_args76 : kn.args 76 = [[some (.i .i64)], [some (.i .i64)]] := rfl
@[simp] theorem k_nils76 : kn.nils 76 = nil76 := rfl
@[simp] theorem k_gc76 : kn.gc 76 = true := rfl
@[simp] theorem k_ali76 : kn.ali 76 = false := rfl
/-! 77: impl.areAll[int] -/
@[simp] theorem c_keep77 (r : Nat) : cf.keep 77 r = tab77.getD r [] := rfl
@[simp] theorem c_pure77 : cf.pure 77 = true := rfl
@[simp] theorem c_pack77 : cf.pack 77 = .whole := rfl
@[simp] theorem c_wary77 (r : Nat) : cf.wary 77 r = false := rfl
@[simp] theorem c_clone77 : cf.clone 77 = none := rfl
@[simp] theorem k_out77 : kn.out 77 = .frz [] := rfl
@[simp] theorem k_args77 : kn.args 77 = [[some (.i .i64)]] := rfl
@[simp] theorem k_nils77 : kn.nils 77 = fun _ => none := rfl
@[simp] theorem k_gc77 : kn.gc 77 = true := rfl
@[simp] theorem k_ali77 : kn.ali 77 = false := rfl
/-! 78: impl.NatOk$1 -/
@[simp] theorem c_keep78 (r : Nat) : cf.keep 78 r = tab78.getD r [] := rfl
@[simp] theorem c_pure78 : cf.pure 78 = true := rfl
@[simp] theorem c_pack78 : cf.pack 78 = .whole := rfl
@[simp] theorem c_wary78 (r : Nat) : cf.wary 78 r = false := rfl
@[simp] theorem c_clone78 : cf.clone 78 = none := rfl
@[simp] theorem k_out78 : kn.out 78 = .frz [] := rfl
@[simp] theorem k_args78 : kn.args 78 = [] := rfl
@[simp] theorem k_nils78 : kn.nils 78 = fun _ => none := rfl
@[simp] theorem k_gc78 : kn.gc 78 = true := rfl
@[simp] theorem k_ali78 : kn.ali 78 = false := rfl
/-! 79: impl.within -/
@[simp] theorem c_keep79 (r : Nat) : cf.keep 79 r = tab79.getD r [] := rfl
@[simp] theorem c_pure79 : cf.pure 79 = true := rfl
@[simp] theorem c_pack79 : cf.pack 79 = .whole := rfl
@[simp] theorem c_wary79 (r : Nat) : cf.wary 79 r = false := rfl
@[simp] theorem c_clone79 : cf.clone 79 = none := rfl
@[simp] theorem k_out79 : kn.out 79 = .frz [] := rfl
@[simp] theorem k_args79 : kn.args 79 = [] := rfl
@[simp] theorem k_nils79 : kn.nils 79 = fun _ => none := rfl
@[simp] theorem k_gc79 : kn.gc 79 = true := rfl
@[simp] theorem k_ali79 : kn.ali 79 = false := rfl
/-! 80: impl.compare -/
@[simp] theorem c_keep80 (r : Nat) : cf.keep 80 r = tab80.getD r [] := rfl
@[simp] theorem c_pure80 : cf.pure 80 = true := rfl
@[simp] theorem c_pack80 : cf.pack 80 = .whole := rfl
@[simp] theorem c_wary80 (r : Nat) : cf.wary 80 r = false := rfl
@[simp] theorem c_clone80 : cf.clone 80 = none := rfl
@[simp] theorem k_out80 : kn.out 80 = .frz [] := rfl
@[simp] theorem k_args80 : kn.args 80 = [[some (.i .i64)], [some (.i .i64)]] := rfl
@[simp] theorem k_nils80 : kn.nils 80 = fun _ => none := rfl
@[simp] theorem k_gc80 : kn.gc 80 = true := rfl
@[simp] theorem k_ali80 : kn.ali 80 = false := rfl
/-! 81: impl.minus -/
@[simp] theorem c_keep81 (r : Nat) : cf.keep 81 r = tab81.getD r [] := rfl
@[simp] theorem c_pure81 : cf.pure 81 = true := rfl
@[simp] theorem c_pack81 : cf.pack 81 = .whole := rfl
@[simp] theorem c_wary81 (r : Nat) : cf.wary 81 r = false := rfl
@[simp] theorem c_clone81 : cf.clone 81 = none := rfl
@[simp] theorem k_out81 : kn.out 81 = .own [[some (.i .i64)]] := rfl
@[simp] theorem k_args81 : kn.args 81 = [[some (.i .i64)], [some (.i .i64)]] := rfl
@[simp] theorem k_nils81 : kn.nils 81 = nil81 := rfl
@[simp] theorem k_gc81 : kn.gc 81 = true := rfl
@[simp] theorem k_ali81 : kn.ali 81 = false := rfl
/-! 82: spec.l2bent -/
@[simp] theorem c_keep82 (r : Nat) : cf.keep 82 r = tab82.getD r [] := rfl
@[simp] theorem c_pure82 : cf.pure 82 = false := rfl
@[simp] theorem c_pack82 : cf.pack 82 = .whole := rfl
@[simp] theorem c_wary82 (r : Nat) : cf.wary 82 r = false := rfl
@[simp] theorem c_clone82 : cf.clone 82 = none := rfl
@[simp] theorem k_out82 : kn.out 82 = .inl := rfl
@[simp] theorem k_args82 : kn.args 82 = [] := rfl
@[simp] theorem k_nils82 : kn.nils 82 = fun _ => none := rfl
@[simp] theorem k_gc82 : kn.gc 82 = false := rfl
@[simp] theorem k_ali82 : kn.ali 82 = false := rfl
/-! 83: spec.l1New -/
@[simp] theorem c_keep83 (r : Nat) : cf.keep 83 r = tab83.getD r [] := rfl
@[simp] theorem c_pure83 : cf.pure 83 = false := rfl
@[simp] theorem c_pack83 : cf.pack 83 = .whole := rfl
@[simp] theorem c_wary83 (r : Nat) : cf.wary 83 r = false := rfl
@[simp] theorem c_clone83 : cf.clone 83 = none := rfl
@[simp] theorem k_out83 : kn.out 83 = .inl := rfl
@[simp] theorem k_args83 : kn.args 83 = [] := rfl
@[simp] theorem k_nils83 : kn.nils 83 = fun _ => none := rfl
@[simp] theorem k_gc83 : kn.gc 83 = false := rfl
@[simp] theorem k_ali83 : kn.ali 83 = false := rfl
/-! 84: impl.digitsOf -/
@[simp] theorem c_keep84 (r : Nat) : cf.keep 84 r = tab84.getD r [] := rfl
@[simp] theorem c_pure84 : cf.pure 84 = true := rfl
@[simp] theorem c_pack84 : cf.pack 84 = .whole := rfl
@[simp] theorem c_wary84 (r : Nat) : cf.wary 84 r = false := rfl
@[simp] theorem c_clone84 : cf.clone 84 = none := rfl
@[simp] theorem k_out84 : kn.out 84 = .own [[some (.i .u8)]] := rfl
@[simp] theorem k_args84 : kn.args 84 = [[some (.i .i64)]] := rfl
@[simp] theorem k_nils84 : kn.nils 84 = nil84 := rfl
@[simp] theorem k_gc84 : kn.gc 84 = true := rfl
@[simp] theorem k_ali84 : kn.ali 84 = false := rfl
/-! 85: impl.areDigits -/
@[simp] theorem c_keep85 (r : Nat) : cf.keep 85 r = tab85.getD r [] := rfl
@[simp] theorem c_pure85 : cf.pure 85 = true := rfl
@[simp] theorem c_pack85 : cf.pack 85 = .whole := rfl
@[simp] theorem c_wary85 (r : Nat) : cf.wary 85 r = false := rfl
@[simp] theorem c_clone85 : cf.clone 85 = none := rfl
@[simp] theorem k_out85 : kn.out 85 = .frz [] := rfl
@[simp] theorem k_args85 : kn.args 85 = [[some (.i .u8)]] := rfl
@[simp] theorem k_nils85 : kn.nils 85 = fun _ => none := rfl
@[simp] theorem k_gc85 : kn.gc 85 = true := rfl
@[simp] theorem k_ali85 : kn.ali 85 = false := rfl
/-! 86: impl.fromDigits -/
@[simp] theorem c_keep86 (r : Nat) : cf.keep 86 r = tab86.getD r [] := rfl
@[simp] theorem c_pure86 : cf.pure 86 = true := rfl
@[simp] theorem c_pack86 : cf.pack 86 = .whole := rfl
@[simp] theorem c_wary86 (r : Nat) : cf.wary 86 r = false := rfl
@[simp] theorem c_clone86 : cf.clone 86 = none := rfl
@[simp] theorem k_out86 : kn.out 86 = .own [[some (.i .i64)]] := rfl
@[simp] theorem k_args86 : kn.args 86 = [[some (.i .u8)]] := rfl
@[simp] theorem k_nils86 : kn.nils 86 = nil86 := rfl
@[simp] theorem k_gc86 : kn.gc 86 = true := rfl
@[simp] theorem k_ali86 : kn.ali 86 = false := rfl
/-! 87: spec.l2text -/
@[simp] theorem c_keep87 (r : Nat) : cf.keep 87 r = tab87.getD r [] := rfl
@[simp] theorem c_pure87 : cf.pure 87 = true := rfl
@[simp] theorem c_pack87 : cf.pack 87 = .whole := rfl
@[simp] theorem c_wary87 (r : Nat) : cf.wary 87 r = false := rfl
@[simp] theorem c_clone87 : cf.clone 87 = none := rfl
@[simp] theorem k_out87 : kn.out 87 = .own [[some (.i .u8)]] := rfl
@[simp] theorem k_args87 : kn.args 87 = [[some (.i .i64)]] := rfl
@[simp] theorem k_nils87 : kn.nils 87 = nil87 := rfl
@[simp] theorem k_gc87 : kn.gc 87 = true := rfl
@[simp] theorem k_ali87 : kn.ali 87 = false := rfl
/-! 88: spec.l2draw -/
@[simp] theorem c_keep88 (r : Nat) : cf.keep 88 r = tab88.getD r [] := rfl
@[simp] theorem c_pure88 : cf.pure 88 = false := rfl
@[simp] theorem c_pack88 : cf.pack 88 = .whole := rfl
@[simp] theorem c_wary88 (r : Nat) : cf.wary 88 r = false := rfl
@[simp] theorem c_clone88 : cf.clone 88 = none := rfl
@[simp] theorem k_out88 : kn.out 88 = .inl := rfl
@[simp] theorem k_args88 : kn.args 88 = [] := rfl
@[simp] theorem k_nils88 : kn.nils 88 = nil88 := rfl
@[simp] theorem k_gc88 : kn.gc 88 = false := rfl
@[simp] theorem k_ali88 : kn.ali 88 = false := rfl
/-! 89: spec.l1Once -/
@[simp] theorem c_keep89 (r : Nat) : cf.keep 89 r = tab89.getD r [] := rfl
@[simp] theorem c_pure89 : cf.pure 89 = false := rfl
@[simp] theorem c_pack89 : cf.pack 89 = .whole := rfl
@[simp] theorem c_wary89 (r : Nat) : cf.wary 89 r = false := rfl
@[simp] theorem c_clone89 : cf.clone 89 = none := rfl
@[simp] theorem k_out89 : kn.out 89 = .inl := rfl
@[simp] theorem k_args89 : kn.args 89 = [] := rfl
@[simp] theorem k_nils89 : kn.nils 89 = fun _ => none := rfl
@[simp] theorem k_gc89 : kn.gc 89 = false := rfl
@[simp] theorem k_ali89 : kn.ali 89 = false := rfl
/-! 90: spec.l1PickInt -/
@[simp] theorem c_keep90 (r : Nat) : cf.keep 90 r = tab90.getD r [] := rfl
@[simp] theorem c_pure90 : cf.pure 90 = false := rfl
@[simp] theorem c_pack90 : cf.pack 90 = .whole := rfl
@[simp] theorem c_wary90 (r : Nat) : cf.wary 90 r = false := rfl
@[simp] theorem c_clone90 : cf.clone 90 = none := rfl
@[simp] theorem k_out90 : kn.out 90 = .inl := rfl
@[simp] theorem k_args90 : kn.args 90 = [] := rfl
@[simp] theorem k_nils90 : kn.nils 90 = fun _ => none := rfl
@[simp] theorem k_gc90 : kn.gc 90 = false := rfl
@[simp] theorem k_ali90 : kn.ali 90 = false := rfl
/-! 91: spec.NatOf -/
@[simp] theorem c_keep91 (r : Nat) : cf.keep 91 r = tab91.getD r [] := rfl
@[simp] theorem c_pure91 : cf.pure 91 = true := rfl
@[simp] theorem c_pack91 : cf.pack 91 = .whole := rfl
@[simp] theorem c_wary91 (r : Nat) : cf.wary 91 r = false := rfl
@[simp] theorem c_clone91 : cf.clone 91 = none := rfl
@[simp] theorem k_out91 : kn.out 91 = .frz [[some (.i .i64)]] := rfl
@[simp] theorem k_args91 : kn.args 91 = [] := rfl
@[simp] theorem k_nils91 : kn.nils 91 = fun _ => none := rfl
@[simp] theorem k_gc91 : kn.gc 91 = true := rfl
@[simp] theorem k_ali91 : kn.ali 91 = false := rfl
/-! 92: spec.DrawWholeCmp -/
@[simp] theorem c_keep92 (r : Nat) : cf.keep 92 r = tab92.getD r [] := rfl
@[simp] theorem c_pure92 : cf.pure 92 = true := rfl
@[simp] theorem c_pack92 : cf.pack 92 = .whole := rfl
@[simp] theorem c_wary92 (r : Nat) : cf.wary 92 r = (true) := rfl
@[simp] theorem c_clone92 : cf.clone 92 = none := rfl
@[simp] theorem k_out92 : kn.out 92 = .frz [[none, some (.i .i64)], [none, some (.i .i64)]] := rfl
@[simp] theorem k_args92 : kn.args 92 = [[some (.i .u8)]] := rfl
@[simp] theorem k_nils92 : kn.nils 92 = fun _ => none := rfl
@[simp] theorem k_gc92 : kn.gc 92 = false := rfl
@[simp] theorem k_ali92 : kn.ali 92 = false := rfl
/-! 93: impl.areWholes -/
@[simp] theorem c_keep93 (r : Nat) : cf.keep 93 r = tab93.getD r [] := rfl
@[simp] theorem c_pure93 : cf.pure 93 = true := rfl
@[simp] theorem c_pack93 : cf.pack 93 = .whole := rfl
@[simp] theorem c_wary93 (r : Nat) : cf.wary 93 r = false := rfl
@[simp] theorem c_clone93 : cf.clone 93 = none := rfl
@[simp] theorem k_out93 : kn.out 93 = .frz [] := rfl
@[simp] theorem k_args93 : kn.args 93 = [[none, some (.i .i64)], [none, some (.i .i64)]] := rfl
@[simp] theorem k_nils93 : kn.nils 93 = fun _ => none := rfl
@[simp] theorem k_gc93 : kn.gc 93 = true := rfl
@[simp] theorem k_ali93 : kn.ali 93 = false := rfl
/-! 94: impl.wholeOf -/
@[simp] theorem c_keep94 (r : Nat) : cf.keep 94 r = tab94.getD r [] := rfl
@[simp] theorem c_pure94 : cf.pure 94 = true := rfl
@[simp] theorem c_pack94 : cf.pack 94 = .whole := rfl
@[simp] theorem c_wary94 (r : Nat) : cf.wary 94 r = false := rfl
@[simp] theorem c_clone94 : cf.clone 94 = none := rfl
@[simp] theorem k_out94 : kn.out 94 = .own [[none, some (.i .i64)]] := rfl
@[simp] theorem k_args94 : kn.args 94 = [[], [some (.i .i64)]] := rfl
@[simp] theorem k_nils94 : kn.nils 94 = fun _ => none := rfl
@[simp] theorem k_gc94 : kn.gc 94 = true := rfl
@[simp] theorem k_ali94 : kn.ali 94 = false := rfl
/-! 95: impl.signedSum -/
@[simp] theorem c_keep95 (r : Nat) : cf.keep 95 r = tab95.getD r [] := rfl
@[simp] theorem c_pure95 : cf.pure 95 = true := rfl
@[simp] theorem c_pack95 : cf.pack 95 = .whole := rfl
@[simp] theorem c_wary95 (r : Nat) : cf.wary 95 r = false := rfl
@[simp] theorem c_clone95 : cf.clone 95 = none := rfl
@[simp] theorem k_out95 : kn.out 95 = .frz [[], [some (.i .i64)]] := rfl
@[simp] theorem k_args95 : kn.args 95 = [[], [some (.i .i64)], [], [some (.i .i64)]] := rfl
@[simp] theorem k_nils95 : kn.nils 95 = nil95 := rfl
@[simp] theorem k_gc95 : kn.gc 95 = true := rfl
@[simp] theorem k_ali95 : kn.ali 95 = false := rfl
/-! 96: (impl.Whole).negated -/
@[simp] theorem c_keep96 (r : Nat) : cf.keep 96 r = tab96.getD r [] := rfl
@[simp] theorem c_pure96 : cf.pure 96 = true := rfl
@[simp] theorem c_pack96 : cf.pack 96 = .whole := rfl
@[simp] theorem c_wary96 (r : Nat) : cf.wary 96 r = false := rfl
@[simp] theorem c_clone96 : cf.clone 96 = none := rfl
@[simp] theorem k_out96 : kn.out 96 = .own [[none, some (.i .i64)]] := rfl
@[simp] theorem k_args96 : kn.args 96 = [[none, some (.i .i64)]] := rfl
@[simp] theorem k_nils96 : kn.nils 96 = fun _ => none := rfl
@[simp] theorem k_gc96 : kn.gc 96 = true := rfl
@[simp] theorem k_ali96 : kn.ali 96 = false := rfl
/-! 97: impl.magnitude -/
@[simp] theorem c_keep97 (r : Nat) : cf.keep 97 r = tab97.getD r [] := rfl
@[simp] theorem c_pure97 : cf.pure 97 = true := rfl
@[simp] theorem c_pack97 : cf.pack 97 = .whole := rfl
@[simp] theorem c_wary97 (r : Nat) : cf.wary 97 r = false := rfl
@[simp] theorem c_clone97 : cf.clone 97 = none := rfl
@[simp] theorem k_out97 : kn.out 97 = .own [[some (.i .i64)]] := rfl
@[simp] theorem k_args97 : kn.args 97 = [] := rfl
@[simp] theorem k_nils97 : kn.nils 97 = nil97 := rfl
@[simp] theorem k_gc97 : kn.gc 97 = true := rfl
@[simp] theorem k_ali97 : kn.ali 97 = false := rfl
/-! 98: impl.signedCompare -/
@[simp] theorem c_keep98 (r : Nat) : cf.keep 98 r = tab98.getD r [] := rfl
@[simp] theorem c_pure98 : cf.pure 98 = true := rfl
@[simp] theorem c_pack98 : cf.pack 98 = .whole := rfl
@[simp] theorem c_wary98 (r : Nat) : cf.wary 98 r = false := rfl
@[simp] theorem c_clone98 : cf.clone 98 = none := rfl
@[simp] theorem k_out98 : kn.out 98 = .frz [] := rfl
@[simp] theorem k_args98 : kn.args 98 = [[], [some (.i .i64)], [], [some (.i .i64)]] := rfl
@[simp] theorem k_nils98 : kn.nils 98 = fun _ => none := rfl
@[simp] theorem k_gc98 : kn.gc 98 = true := rfl
@[simp] theorem k_ali98 : kn.ali 98 = false := rfl
/-! 99: laws.szIntS -/
@[simp] theorem c_keep99 (r : Nat) : cf.keep 99 r = tab99.getD r [] := rfl
@[simp] theorem c_pure99 : cf.pure 99 = true := rfl
@[simp] theorem c_pack99 : cf.pack 99 = .whole := rfl
@[simp] theorem c_wary99 (r : Nat) : cf.wary 99 r = false := rfl
@[simp] theorem c_clone99 : cf.clone 99 = none := rfl
@[simp] theorem k_out99 : kn.out 99 = .frz [] := rfl
@[simp] theorem k_args99 : kn.args 99 = [[some (.i .i64)]] := rfl
@[simp] theorem k_nils99 : kn.nils 99 = fun _ => none := rfl
@[simp] theorem k_gc99 : kn.gc 99 = true := rfl
@[simp] theorem k_ali99 : kn.ali 99 = false := rfl
/-! 100: spec.l2root -/
@[simp] theorem c_keep100 (r : Nat) : cf.keep 100 r = tab100.getD r [] := rfl
@[simp] theorem c_pure100 : cf.pure 100 = true := rfl
@[simp] theorem c_pack100 : cf.pack 100 = .whole := rfl
@[simp] theorem c_wary100 (r : Nat) : cf.wary 100 r = false := rfl
@[simp] theorem c_clone100 : cf.clone 100 = none := rfl
@[simp] theorem k_out100 : kn.out 100 = .frz [[some (.i .i64)]] := rfl
@[simp] theorem k_args100 : kn.args 100 = [[some (.i .i64)]] := rfl
@[simp] theorem k_nils100 : kn.nils 100 = fun _ => none := rfl
@[simp] theorem k_gc100 : kn.gc 100 = true := rfl
@[simp] theorem k_ali100 : kn.ali 100 = false := rfl
/-! 101: laws.toIntS -/
@[simp] theorem c_keep101 (r : Nat) : cf.keep 101 r = tab101.getD r [] := rfl
@[simp] theorem c_pure101 : cf.pure 101 = true := rfl
@[simp] theorem c_pack101 : cf.pack 101 = .whole := rfl
@[simp] theorem c_wary101 (r : Nat) : cf.wary 101 r = false := rfl
@[simp] theorem c_clone101 : cf.clone 101 = none := rfl
@[simp] theorem k_out101 : kn.out 101 = .own [[some (.i .i64)]] := rfl
@[simp] theorem k_args101 : kn.args 101 = [[some (.i .i64)]] := rfl
@[simp] theorem k_nils101 : kn.nils 101 = nil101 := rfl
@[simp] theorem k_gc101 : kn.gc 101 = true := rfl
@[simp] theorem k_ali101 : kn.ali 101 = false := rfl
/-! 102: impl.rootOf -/
@[simp] theorem c_keep102 (r : Nat) : cf.keep 102 r = tab102.getD r [] := rfl
@[simp] theorem c_pure102 : cf.pure 102 = true := rfl
@[simp] theorem c_pack102 : cf.pack 102 = .whole := rfl
@[simp] theorem c_wary102 (r : Nat) : cf.wary 102 r = false := rfl
@[simp] theorem c_clone102 : cf.clone 102 = none := rfl
@[simp] theorem k_out102 : kn.out 102 = .own [[some (.i .i64)]] := rfl
@[simp] theorem k_args102 : kn.args 102 = [[some (.i .i64)]] := rfl
@[simp] theorem k_nils102 : kn.nils 102 = nil102 := rfl
@[simp] theorem k_gc102 : kn.gc 102 = true := rfl
@[simp] theorem k_ali102 : kn.ali 102 = false := rfl
/-! 103: laws.eqIntS -/
@[simp] theorem c_keep103 (r : Nat) : cf.keep 103 r = tab103.getD r [] := rfl
@[simp] theorem c_pure103 : cf.pure 103 = true := rfl
@[simp] theorem c_pack103 : cf.pack 103 = .whole := rfl
@[simp] theorem c_wary103 (r : Nat) : cf.wary 103 r = false := rfl
@[simp] theorem c_clone103 : cf.clone 103 = none := rfl
@[simp] theorem k_out103 : kn.out 103 = .frz [] := rfl
@[simp] theorem k_args103 : kn.args 103 = [[some (.i .i64)], [some (.i .i64)]] := rfl
@[simp] theorem k_nils103 : kn.nils 103 = fun _ => none := rfl
@[simp] theorem k_gc103 : kn.gc 103 = true := rfl
@[simp] theorem k_ali103 : kn.ali 103 = false := rfl
/-! 104: laws.markIntS -/
@[simp] theorem c_keep104 (r : Nat) : cf.keep 104 r = tab104.getD r [] := rfl
@[simp] theorem c_pure104 : cf.pure 104 = false := rfl
@[simp] theorem c_pack104 : cf.pack 104 = .whole := rfl
@[simp] theorem c_wary104 (r : Nat) : cf.wary 104 r = false := rfl
@[simp] theorem c_clone104 : cf.clone 104 = none := rfl
@[simp] theorem k_out104 : kn.out 104 = .inl := rfl
@[simp] theorem k_args104 : kn.args 104 = [] := rfl
@[simp] theorem k_nils104 : kn.nils 104 = fun _ => none := rfl
@[simp] theorem k_gc104 : kn.gc 104 = false := rfl
@[simp] theorem k_ali104 : kn.ali 104 = false := rfl
/-! 105: laws.heldIntS -/
@[simp] theorem c_keep105 (r : Nat) : cf.keep 105 r = tab105.getD r [] := rfl
@[simp] theorem c_pure105 : cf.pure 105 = true := rfl
@[simp] theorem c_pack105 : cf.pack 105 = .whole := rfl
@[simp] theorem c_wary105 (r : Nat) : cf.wary 105 r = false := rfl
@[simp] theorem c_clone105 : cf.clone 105 = none := rfl
@[simp] theorem k_out105 : kn.out 105 = .frz [] := rfl
@[simp] theorem k_args105 : kn.args 105 = [[some (.i .i64)]] := rfl
@[simp] theorem k_nils105 : kn.nils 105 = fun _ => none := rfl
@[simp] theorem k_gc105 : kn.gc 105 = true := rfl
@[simp] theorem k_ali105 : kn.ali 105 = false := rfl
/-! 106: spec.l2mul -/
@[simp] theorem c_keep106 (r : Nat) : cf.keep 106 r = tab106.getD r [] := rfl
@[simp] theorem c_pure106 : cf.pure 106 = true := rfl
@[simp] theorem c_pack106 : cf.pack 106 = .whole := rfl
@[simp] theorem c_wary106 (r : Nat) : cf.wary 106 r = false := rfl
@[simp] theorem c_clone106 : cf.clone 106 = none := rfl
@[simp] theorem k_out106 : kn.out 106 = .frz [[some (.i .i64)]] := rfl
@[simp] theorem k_args106 : kn.args 106 = [[some (.i .i64)], [some (.i .i64)]] := rfl
@[simp] theorem k_nils106 : kn.nils 106 = fun _ => none := rfl
@[simp] theorem k_gc106 : kn.gc 106 = true := rfl
@[simp] theorem k_ali106 : kn.ali 106 = false := rfl
/-! 107: spec.NatMul -/
@[simp] theorem c_keep107 (r : Nat) : cf.keep 107 r = tab107.getD r [] := rfl
@[simp] theorem c_pure107 : cf.pure 107 = true := rfl
@[simp] theorem c_pack107 : cf.pack 107 = .whole := rfl
@[simp] theorem c_wary107 (r : Nat) : cf.wary 107 r = false := rfl
@[simp] theorem c_clone107 : cf.clone 107 = none := rfl
@[simp] theorem k_out107 : kn.out 107 = .frz [[some (.i .i64)]] := rfl
@[simp] theorem k_args107 : kn.args 107 = [[some (.i .i64)], [some (.i .i64)]] := rfl
@[simp] theorem k_nils107 : kn.nils 107 = fun _ => none := rfl
@[simp] theorem k_gc107 : kn.gc 107 = true := rfl
@[simp] theorem k_ali107 : kn.ali 107 = false := rfl
/-! 108: impl.divide -/
@[simp] theorem c_keep108 (r : Nat) : cf.keep 108 r = tab108.getD r [] := rfl
@[simp] theorem c_pure108 : cf.pure 108 = true := rfl
@[simp] theorem c_pack108 : cf.pack 108 = .whole := rfl
@[simp] theorem c_wary108 (r : Nat) : cf.wary 108 r = false := rfl
@[simp] theorem c_clone108 : cf.clone 108 = none := rfl
@[simp] theorem k_out108 : kn.out 108 = .own [[some (.i .i64)], [some (.i .i64)]] := rfl
@[simp] theorem k_args108 : kn.args 108 = [[some (.i .i64)], [some (.i .i64)]] := rfl
@[simp] theorem k_nils108 : kn.nils 108 = nil108 := rfl
@[simp] theorem k_gc108 : kn.gc 108 = true := rfl
@[simp] theorem k_ali108 : kn.ali 108 = false := rfl
/-! 109: impl.small -/
@[simp] theorem c_keep109 (r : Nat) : cf.keep 109 r = tab109.getD r [] := rfl
@[simp] theorem c_pure109 : cf.pure 109 = true := rfl
@[simp] theorem c_pack109 : cf.pack 109 = .whole := rfl
@[simp] theorem c_wary109 (r : Nat) : cf.wary 109 r = false := rfl
@[simp] theorem c_clone109 : cf.clone 109 = none := rfl
@[simp] theorem k_out109 : kn.out 109 = .own [[some (.i .i64)]] := rfl
@[simp] theorem k_args109 : kn.args 109 = [] := rfl
@[simp] theorem k_nils109 : kn.nils 109 = nil109 := rfl
@[simp] theorem k_gc109 : kn.gc 109 = true := rfl
@[simp] theorem k_ali109 : kn.ali 109 = false := rfl
/-! 110: spec.l3div -/
@[simp] theorem c_keep110 (r : Nat) : cf.keep 110 r = tab110.getD r [] := rfl
@[simp] theorem c_pure110 : cf.pure 110 = true := rfl
@[simp] theorem c_pack110 : cf.pack 110 = .whole := rfl
@[simp] theorem c_wary110 (r : Nat) : cf.wary 110 r = false := rfl
@[simp] theorem c_clone110 : cf.clone 110 = none := rfl
@[simp] theorem k_out110 : kn.out 110 = .frz [[none, some (.i .i64)], [none, some (.i .i64)]] := rfl
@[simp] theorem k_args110 : kn.args 110 = [[none, some (.i .i64)], [none, some (.i .i64)]] := rfl
@[simp] theorem k_nils110 : kn.nils 110 = fun _ => none := rfl
@[simp] theorem k_gc110 : kn.gc 110 = true := rfl
@[simp] theorem k_ali110 : kn.ali 110 = false := rfl
/-! 111: spec.l3fits -/
@[simp] theorem c_keep111 (r : Nat) : cf.keep 111 r = tab111.getD r [] := rfl
@[simp] theorem c_pure111 : cf.pure 111 = true := rfl
@[simp] theorem c_pack111 : cf.pack 111 = .whole := rfl
@[simp] theorem c_wary111 (r : Nat) : cf.wary 111 r = false := rfl
@[simp] theorem c_clone111 : cf.clone 111 = none := rfl
@[simp] theorem k_out111 : kn.out 111 = .frz [[none, some (.i .i64)]] := rfl
@[simp] theorem k_args111 : kn.args 111 = [[none, some (.i .i64)]] := rfl
@[simp] theorem k_nils111 : kn.nils 111 = fun _ => none := rfl
@[simp] theorem k_gc111 : kn.gc 111 = true := rfl
@[simp] theorem k_ali111 : kn.ali 111 = false := rfl
/-! 113: impl.plainOf -/
@[simp] theorem c_keep113 (r : Nat) : cf.keep 113 r = tab113.getD r [] := rfl
@[simp] theorem c_pure113 : cf.pure 113 = true := rfl
@[simp] theorem c_pack113 : cf.pack 113 = .whole := rfl
@[simp] theorem c_wary113 (r : Nat) : cf.wary 113 r = false := rfl
@[simp] theorem c_clone113 : cf.clone 113 = none := rfl
@[simp] theorem k_out113 : kn.out 113 = .own [[some (.i .u8)]] := rfl
@[simp] theorem k_args113 : kn.args 113 = [] := rfl
@[simp] theorem k_nils113 : kn.nils 113 = nil113 := rfl
@[simp] theorem k_gc113 : kn.gc 113 = true := rfl
@[simp] theorem k_ali113 : kn.ali 113 = false := rfl
/-! 115: spec.l3draw -/
@[simp] theorem c_keep115 (r : Nat) : cf.keep 115 r = tab115.getD r [] := rfl
@[simp] theorem c_pure115 : cf.pure 115 = false := rfl
@[simp] theorem c_pack115 : cf.pack 115 = .whole := rfl
@[simp] theorem c_wary115 (r : Nat) : cf.wary 115 r = false := rfl
@[simp] theorem c_clone115 : cf.clone 115 = none := rfl
@[simp] theorem k_out115 : kn.out 115 = .inl := rfl
@[simp] theorem k_args115 : kn.args 115 = [] := rfl
@[simp] theorem k_nils115 : kn.nils 115 = fun _ => none := rfl
@[simp] theorem k_gc115 : kn.gc 115 = false := rfl
@[simp] theorem k_ali115 : kn.ali 115 = false := rfl
/-! 116: spec.RuneBytes -/
@[simp] theorem c_keep116 (r : Nat) : cf.keep 116 r = tab116.getD r [] := rfl
@[simp] theorem c_pure116 : cf.pure 116 = true := rfl
@[simp] theorem c_pack116 : cf.pack 116 = .whole := rfl
@[simp] theorem c_wary116 (r : Nat) : cf.wary 116 r = false := rfl
@[simp] theorem c_clone116 : cf.clone 116 = none := rfl
@[simp] theorem k_out116 : kn.out 116 = .frz [[some (.i .u8)]] := rfl
@[simp] theorem k_args116 : kn.args 116 = [] := rfl
@[simp] theorem k_nils116 : kn.nils 116 = nil116 := rfl
@[simp] theorem k_gc116 : kn.gc 116 = true := rfl
@[simp] theorem k_ali116 : kn.ali 116 = false := rfl
/-! 117: impl.cutSign -/
@[simp] theorem c_keep117 (r : Nat) : cf.keep 117 r = tab117.getD r [] := rfl
@[simp] theorem c_pure117 : cf.pure 117 = true := rfl
@[simp] theorem c_pack117 : cf.pack 117 = .whole := rfl
@[simp] theorem c_wary117 (r : Nat) : cf.wary 117 r = false := rfl
@[simp] theorem c_clone117 : cf.clone 117 = none := rfl
@[simp] theorem k_out117 : kn.out 117 = .frz [[some (.i .u8)]] := rfl
@[simp] theorem k_args117 : kn.args 117 = [[some (.i .u8)]] := rfl
@[simp] theorem k_nils117 : kn.nils 117 = nil117 := rfl
@[simp] theorem k_gc117 : kn.gc 117 = true := rfl
@[simp] theorem k_ali117 : kn.ali 117 = false := rfl
/-! 118: impl.runesOf -/
@[simp] theorem c_keep118 (r : Nat) : cf.keep 118 r = tab118.getD r [] := rfl
@[simp] theorem c_pure118 : cf.pure 118 = true := rfl
@[simp] theorem c_pack118 : cf.pack 118 = .whole := rfl
@[simp] theorem c_wary118 (r : Nat) : cf.wary 118 r = false := rfl
@[simp] theorem c_clone118 : cf.clone 118 = none := rfl
@[simp] theorem k_out118 : kn.out 118 = .own [[some (.i .i64)]] := rfl
@[simp] theorem k_args118 : kn.args 118 = [[some (.i .u8)]] := rfl
@[simp] theorem k_nils118 : kn.nils 118 = nil118 := rfl
@[simp] theorem k_gc118 : kn.gc 118 = true := rfl
@[simp] theorem k_ali118 : kn.ali 118 = false := rfl
/-! 119: slices.Contains[[]int,int] -/
@[simp] theorem c_keep119 (r : Nat) : cf.keep 119 r = tab119.getD r [] := rfl
@[simp] theorem c_pure119 : cf.pure 119 = true := rfl
@[simp] theorem c_pack119 : cf.pack 119 = .whole := rfl
@[simp] theorem c_wary119 (r : Nat) : cf.wary 119 r = false := rfl
@[simp] theorem c_clone119 : cf.clone 119 = none := rfl
@[simp] theorem k_out119 : kn.out 119 = .frz [] := rfl
@[simp] theorem k_args119 : kn.args 119 = [[some (.i .i64)]] := rfl
@[simp] theorem k_nils119 : kn.nils 119 = fun _ => none := rfl
@[simp] theorem k_gc119 : kn.gc 119 = true := rfl
@[simp] theorem k_ali119 : kn.ali 119 = false := rfl
/-! 120: spec.l3bent -/
@[simp] theorem c_keep120 (r : Nat) : cf.keep 120 r = tab120.getD r [] := rfl
@[simp] theorem c_pure120 : cf.pure 120 = false := rfl
@[simp] theorem c_pack120 : cf.pack 120 = .whole := rfl
@[simp] theorem c_wary120 (r : Nat) : cf.wary 120 r = false := rfl
@[simp] theorem c_clone120 : cf.clone 120 = none := rfl
@[simp] theorem k_out120 : kn.out 120 = .inl := rfl
@[simp] theorem k_args120 : kn.args 120 = [] := rfl
@[simp] theorem k_nils120 : kn.nils 120 = fun _ => none := rfl
@[simp] theorem k_gc120 : kn.gc 120 = false := rfl
@[simp] theorem k_ali120 : kn.ali 120 = false := rfl
/-! 121: impl.signedText -/
@[simp] theorem c_keep121 (r : Nat) : cf.keep 121 r = tab121.getD r [] := rfl
@[simp] theorem c_pure121 : cf.pure 121 = true := rfl
@[simp] theorem c_pack121 : cf.pack 121 = .whole := rfl
@[simp] theorem c_wary121 (r : Nat) : cf.wary 121 r = false := rfl
@[simp] theorem c_clone121 : cf.clone 121 = none := rfl
@[simp] theorem k_out121 : kn.out 121 = .inl := rfl
@[simp] theorem k_args121 : kn.args 121 = [[], [some (.i .u8)]] := rfl
@[simp] theorem k_nils121 : kn.nils 121 = nil121 := rfl
@[simp] theorem k_gc121 : kn.gc 121 = false := rfl
@[simp] theorem k_ali121 : kn.ali 121 = true := rfl
/-! 122: spec.Plain -/
@[simp] theorem c_keep122 (r : Nat) : cf.keep 122 r = tab122.getD r [] := rfl
@[simp] theorem c_pure122 : cf.pure 122 = true := rfl
@[simp] theorem c_pack122 : cf.pack 122 = .whole := rfl
@[simp] theorem c_wary122 (r : Nat) : cf.wary 122 r = false := rfl
@[simp] theorem c_clone122 : cf.clone 122 = none := rfl
@[simp] theorem k_out122 : kn.out 122 = .frz [[some (.i .u8)]] := rfl
@[simp] theorem k_args122 : kn.args 122 = [[some (.i .u8)]] := rfl
@[simp] theorem k_nils122 : kn.nils 122 = nil122 := rfl
@[simp] theorem k_gc122 : kn.gc 122 = true := rfl
@[simp] theorem k_ali122 : kn.ali 122 = false := rfl
/-! 123: spec.l2isDigits -/
@[simp] theorem c_keep123 (r : Nat) : cf.keep 123 r = tab123.getD r [] := rfl
@[simp] theorem c_pure123 : cf.pure 123 = true := rfl
@[simp] theorem c_pack123 : cf.pack 123 = .whole := rfl
@[simp] theorem c_wary123 (r : Nat) : cf.wary 123 r = false := rfl
@[simp] theorem c_clone123 : cf.clone 123 = none := rfl
@[simp] theorem k_out123 : kn.out 123 = .frz [] := rfl
@[simp] theorem k_args123 : kn.args 123 = [[some (.i .u8)]] := rfl
@[simp] theorem k_nils123 : kn.nils 123 = fun _ => none := rfl
@[simp] theorem k_gc123 : kn.gc 123 = true := rfl
@[simp] theorem k_ali123 : kn.ali 123 = false := rfl
/-! 124: spec.l3make -/
@[simp] theorem c_keep124 (r : Nat) : cf.keep 124 r = tab124.getD r [] := rfl
@[simp] theorem c_pure124 : cf.pure 124 = true := rfl
@[simp] theorem c_pack124 : cf.pack 124 = .whole := rfl
@[simp] theorem c_wary124 (r : Nat) : cf.wary 124 r = false := rfl
@[simp] theorem c_clone124 : cf.clone 124 = none := rfl
@[simp] theorem k_out124 : kn.out 124 = .frz [[none, some (.i .i64)]] := rfl
@[simp] theorem k_args124 : kn.args 124 = [[], [some (.i .i64)]] := rfl
@[simp] theorem k_nils124 : kn.nils 124 = fun _ => none := rfl
@[simp] theorem k_gc124 : kn.gc 124 = true := rfl
@[simp] theorem k_ali124 : kn.ali 124 = false := rfl
/-! 125: spec.l2digits -/
@[simp] theorem c_keep125 (r : Nat) : cf.keep 125 r = tab125.getD r [] := rfl
@[simp] theorem c_pure125 : cf.pure 125 = true := rfl
@[simp] theorem c_pack125 : cf.pack 125 = .whole := rfl
@[simp] theorem c_wary125 (r : Nat) : cf.wary 125 r = false := rfl
@[simp] theorem c_clone125 : cf.clone 125 = none := rfl
@[simp] theorem k_out125 : kn.out 125 = .frz [[some (.i .i64)]] := rfl
@[simp] theorem k_args125 : kn.args 125 = [[some (.i .u8)]] := rfl
@[simp] theorem k_nils125 : kn.nils 125 = fun _ => none := rfl
@[simp] theorem k_gc125 : kn.gc 125 = true := rfl
@[simp] theorem k_ali125 : kn.ali 125 = false := rfl
/-! 126: spec.l2add -/
@[simp] theorem c_keep126 (r : Nat) : cf.keep 126 r = tab126.getD r [] := rfl
@[simp] theorem c_pure126 : cf.pure 126 = true := rfl
@[simp] theorem c_pack126 : cf.pack 126 = .whole := rfl
@[simp] theorem c_wary126 (r : Nat) : cf.wary 126 r = false := rfl
@[simp] theorem c_clone126 : cf.clone 126 = none := rfl
@[simp] theorem k_out126 : kn.out 126 = .frz [[some (.i .i64)]] := rfl
@[simp] theorem k_args126 : kn.args 126 = [[some (.i .i64)], [some (.i .i64)]] := rfl
@[simp] theorem k_nils126 : kn.nils 126 = nil126 := rfl
@[simp] theorem k_gc126 : kn.gc 126 = true := rfl
@[simp] theorem k_ali126 : kn.ali 126 = false := rfl
/-! 127: spec.l2of -/
@[simp] theorem c_keep127 (r : Nat) : cf.keep 127 r = tab127.getD r [] := rfl
@[simp] theorem c_pure127 : cf.pure 127 = true := rfl
@[simp] theorem c_pack127 : cf.pack 127 = .whole := rfl
@[simp] theorem c_wary127 (r : Nat) : cf.wary 127 r = false := rfl
@[simp] theorem c_clone127 : cf.clone 127 = none := rfl
@[simp] theorem k_out127 : kn.out 127 = .own [[some (.i .i64)]] := rfl
@[simp] theorem k_args127 : kn.args 127 = [] := rfl
@[simp] theorem k_nils127 : kn.nils 127 = nil127 := rfl
@[simp] theorem k_gc127 : kn.gc 127 = true := rfl
@[simp] theorem k_ali127 : kn.ali 127 = false := rfl
/-! 128: spec.l1Below -/
@[simp] theorem c_keep128 (r : Nat) : cf.keep 128 r = tab128.getD r [] := rfl
@[simp] theorem c_pure128 : cf.pure 128 = false := rfl
@[simp] theorem c_pack128 : cf.pack 128 = .whole := rfl
@[simp] theorem c_wary128 (r : Nat) : cf.wary 128 r = false := rfl
@[simp] theorem c_clone128 : cf.clone 128 = none := rfl
@[simp] theorem k_out128 : kn.out 128 = .inl := rfl
@[simp] theorem k_args128 : kn.args 128 = [] := rfl
@[simp] theorem k_nils128 : kn.nils 128 = fun _ => none := rfl
@[simp] theorem k_gc128 : kn.gc 128 = false := rfl
@[simp] theorem k_ali128 : kn.ali 128 = false := rfl
/-! 129: slices.Clone[[]int,int] -/
@[simp] theorem c_keep129 (r : Nat) : cf.keep 129 r = tab129.getD r [] := rfl
@[simp] theorem c_pure129 : cf.pure 129 = true := rfl
@[simp] theorem c_pack129 : cf.pack 129 = .pack [.i64] := rfl
@[simp] theorem c_wary129 (r : Nat) : cf.wary 129 r = false := rfl
@[simp] theorem c_clone129 : cf.clone 129 = some .i64 := rfl
@[simp] theorem k_out129 : kn.out 129 = .own [[some (.i .i64)]] := rfl
@[simp] theorem k_args129 : kn.args 129 = [[some (.i .i64)]] := rfl
@[simp] theorem k_nils129 : kn.nils 129 = nil129 := rfl
@[simp] theorem k_gc129 : kn.gc 129 = true := rfl
@[simp] theorem k_ali129 : kn.ali 129 = false := rfl
/-! 130: impl.trim -/
@[simp] theorem c_keep130 (r : Nat) : cf.keep 130 r = tab130.getD r [] := rfl
@[simp] theorem c_pure130 : cf.pure 130 = true := rfl
@[simp] theorem c_pack130 : cf.pack 130 = .whole := rfl
@[simp] theorem c_wary130 (r : Nat) : cf.wary 130 r = false := rfl
@[simp] theorem c_clone130 : cf.clone 130 = none := rfl
@[simp] theorem k_out130 : kn.out 130 = .inl := rfl
@[simp] theorem k_args130 : kn.args 130 = [[some (.i .i64)]] := rfl
@[simp] theorem k_nils130 : kn.nils 130 = nil130 := rfl
@[simp] theorem k_gc130 : kn.gc 130 = false := rfl
@[simp] theorem k_ali130 : kn.ali 130 = true := rfl
/-! 131: slices.ContainsFunc[[]int,int] -/
@[simp] theorem c_keep131 (r : Nat) : cf.keep 131 r = tab131.getD r [] := rfl
@[simp] theorem c_pure131 : cf.pure 131 = true := rfl
@[simp] theorem c_pack131 : cf.pack 131 = .whole := rfl
@[simp] theorem c_wary131 (r : Nat) : cf.wary 131 r = false := rfl
@[simp] theorem c_clone131 : cf.clone 131 = none := rfl
@[simp] theorem k_out131 : kn.out 131 = .frz [] := rfl
@[simp] theorem k_args131 : kn.args 131 = [[some (.i .i64)]] := rfl
@[simp] theorem k_nils131 : kn.nils 131 = fun _ => none := rfl
@[simp] theorem k_gc131 : kn.gc 131 = true := rfl
@[simp] theorem k_ali131 : kn.ali 131 = false := rfl
/-! 132: impl.areAll[int]$1 -/
@[simp] theorem c_keep132 (r : Nat) : cf.keep 132 r = tab132.getD r [] := rfl
@[simp] theorem c_pure132 : cf.pure 132 = true := rfl
@[simp] theorem c_pack132 : cf.pack 132 = .whole := rfl
@[simp] theorem c_wary132 (r : Nat) : cf.wary 132 r = false := rfl
@[simp] theorem c_clone132 : cf.clone 132 = none := rfl
@[simp] theorem k_out132 : kn.out 132 = .frz [] := rfl
@[simp] theorem k_args132 : kn.args 132 = [] := rfl
@[simp] theorem k_nils132 : kn.nils 132 = fun _ => none := rfl
@[simp] theorem k_gc132 : kn.gc 132 = true := rfl
@[simp] theorem k_ali132 : kn.ali 132 = false := rfl
/-! 133: cmp.Compare[int] -/
@[simp] theorem c_keep133 (r : Nat) : cf.keep 133 r = tab133.getD r [] := rfl
@[simp] theorem c_pure133 : cf.pure 133 = true := rfl
@[simp] theorem c_pack133 : cf.pack 133 = .whole := rfl
@[simp] theorem c_wary133 (r : Nat) : cf.wary 133 r = false := rfl
@[simp] theorem c_clone133 : cf.clone 133 = none := rfl
@[simp] theorem k_out133 : kn.out 133 = .frz [] := rfl
@[simp] theorem k_args133 : kn.args 133 = [] := rfl
@[simp] theorem k_nils133 : kn.nils 133 = fun _ => none := rfl
@[simp] theorem k_gc133 : kn.gc 133 = true := rfl
@[simp] theorem k_ali133 : kn.ali 133 = false := rfl
/-! 134: impl.divideSmall -/
@[simp] theorem c_keep134 (r : Nat) : cf.keep 134 r = tab134.getD r [] := rfl
@[simp] theorem c_pure134 : cf.pure 134 = true := rfl
@[simp] theorem c_pack134 : cf.pack 134 = .whole := rfl
@[simp] theorem c_wary134 (r : Nat) : cf.wary 134 r = false := rfl
@[simp] theorem c_clone134 : cf.clone 134 = none := rfl
@[simp] theorem k_out134 : kn.out 134 = .own [[some (.i .i64)]] := rfl
@[simp] theorem k_args134 : kn.args 134 = [[some (.i .i64)]] := rfl
@[simp] theorem k_nils134 : kn.nils 134 = nil134 := rfl
@[simp] theorem k_gc134 : kn.gc 134 = true := rfl
@[simp] theorem k_ali134 : kn.ali 134 = false := rfl
/-! 135: slices.Reverse[[]byte,byte] -/
@[simp] theorem c_keep135 (r : Nat) : cf.keep 135 r = tab135.getD r [] := rfl
@[simp] theorem c_pure135 : cf.pure 135 = false := rfl
@[simp] theorem c_pack135 : cf.pack 135 = .whole := rfl
@[simp] theorem c_wary135 (r : Nat) : cf.wary 135 r = false := rfl
@[simp] theorem c_clone135 : cf.clone 135 = none := rfl
@[simp] theorem k_out135 : kn.out 135 = .inl := rfl
@[simp] theorem k_args135 : kn.args 135 = [] := rfl
@[simp] theorem k_nils135 : kn.nils 135 = fun _ => none := rfl
@[simp] theorem k_gc135 : kn.gc 135 = false := rfl
@[simp] theorem k_ali135 : kn.ali 135 = false := rfl
/-! 136: impl.areAll[byte] -/
@[simp] theorem c_keep136 (r : Nat) : cf.keep 136 r = tab136.getD r [] := rfl
@[simp] theorem c_pure136 : cf.pure 136 = true := rfl
@[simp] theorem c_pack136 : cf.pack 136 = .whole := rfl
@[simp] theorem c_wary136 (r : Nat) : cf.wary 136 r = false := rfl
@[simp] theorem c_clone136 : cf.clone 136 = none := rfl
@[simp] theorem k_out136 : kn.out 136 = .frz [] := rfl
@[simp] theorem k_args136 : kn.args 136 = [[some (.i .u8)]] := rfl
@[simp] theorem k_nils136 : kn.nils 136 = fun _ => none := rfl
@[simp] theorem k_gc136 : kn.gc 136 = true := rfl
@[simp] theorem k_ali136 : kn.ali 136 = false := rfl
/-! 137: impl.areDigits$1 -/
@[simp] theorem c_keep137 (r : Nat) : cf.keep 137 r = tab137.getD r [] := rfl
@[simp] theorem c_pure137 : cf.pure 137 = true := rfl
@[simp] theorem c_pack137 : cf.pack 137 = .whole := rfl
@[simp] theorem c_wary137 (r : Nat) : cf.wary 137 r = false := rfl
@[simp] theorem c_clone137 : cf.clone 137 = none := rfl
@[simp] theorem k_out137 : kn.out 137 = .frz [] := rfl
@[simp] theorem k_args137 : kn.args 137 = [] := rfl
@[simp] theorem k_nils137 : kn.nils 137 = fun _ => none := rfl
@[simp] theorem k_gc137 : kn.gc 137 = true := rfl
@[simp] theorem k_ali137 : kn.ali 137 = false := rfl
/-! 138: spec.l2small -/
@[simp] theorem c_keep138 (r : Nat) : cf.keep 138 r = tab138.getD r [] := rfl
@[simp] theorem c_pure138 : cf.pure 138 = true := rfl
@[simp] theorem c_pack138 : cf.pack 138 = .whole := rfl
@[simp] theorem c_wary138 (r : Nat) : cf.wary 138 r = false := rfl
@[simp] theorem c_clone138 : cf.clone 138 = none := rfl
@[simp] theorem k_out138 : kn.out 138 = .frz [[some (.i .i64)]] := rfl
@[simp] theorem k_args138 : kn.args 138 = [[some (.i .i64)]] := rfl
@[simp] theorem k_nils138 : kn.nils 138 = fun _ => none := rfl
@[simp] theorem k_gc138 : kn.gc 138 = true := rfl
@[simp] theorem k_ali138 : kn.ali 138 = false := rfl
/-! 139: spec.l2drawLen -/
@[simp] theorem c_keep139 (r : Nat) : cf.keep 139 r = tab139.getD r [] := rfl
@[simp] theorem c_pure139 : cf.pure 139 = false := rfl
@[simp] theorem c_pack139 : cf.pack 139 = .whole := rfl
@[simp] theorem c_wary139 (r : Nat) : cf.wary 139 r = false := rfl
@[simp] theorem c_clone139 : cf.clone 139 = none := rfl
@[simp] theorem k_out139 : kn.out 139 = .inl := rfl
@[simp] theorem k_args139 : kn.args 139 = [] := rfl
@[simp] theorem k_nils139 : kn.nils 139 = fun _ => none := rfl
@[simp] theorem k_gc139 : kn.gc 139 = false := rfl
@[simp] theorem k_ali139 : kn.ali 139 = false := rfl
/-! 140: spec.l2norm -/
@[simp] theorem c_keep140 (r : Nat) : cf.keep 140 r = tab140.getD r [] := rfl
@[simp] theorem c_pure140 : cf.pure 140 = true := rfl
@[simp] theorem c_pack140 : cf.pack 140 = .whole := rfl
@[simp] theorem c_wary140 (r : Nat) : cf.wary 140 r = false := rfl
@[simp] theorem c_clone140 : cf.clone 140 = none := rfl
@[simp] theorem k_out140 : kn.out 140 = .own [[some (.i .i64)]] := rfl
@[simp] theorem k_args140 : kn.args 140 = [[some (.i .i64)]] := rfl
@[simp] theorem k_nils140 : kn.nils 140 = fun _ => none := rfl
@[simp] theorem k_gc140 : kn.gc 140 = true := rfl
@[simp] theorem k_ali140 : kn.ali 140 = false := rfl
/-! 141: spec.l3neg -/
@[simp] theorem c_keep141 (r : Nat) : cf.keep 141 r = tab141.getD r [] := rfl
@[simp] theorem c_pure141 : cf.pure 141 = true := rfl
@[simp] theorem c_pack141 : cf.pack 141 = .whole := rfl
@[simp] theorem c_wary141 (r : Nat) : cf.wary 141 r = false := rfl
@[simp] theorem c_clone141 : cf.clone 141 = none := rfl
@[simp] theorem k_out141 : kn.out 141 = .frz [[none, some (.i .i64)]] := rfl
@[simp] theorem k_args141 : kn.args 141 = [[none, some (.i .i64)]] := rfl
@[simp] theorem k_nils141 : kn.nils 141 = fun _ => none := rfl
@[simp] theorem k_gc141 : kn.gc 141 = true := rfl
@[simp] theorem k_ali141 : kn.ali 141 = false := rfl
/-! 142: (impl.Whole).own -/
@[simp] theorem c_keep142 (r : Nat) : cf.keep 142 r = tab142.getD r [] := rfl
@[simp] theorem c_pure142 : cf.pure 142 = true := rfl
@[simp] theorem c_pack142 : cf.pack 142 = .whole := rfl
@[simp] theorem c_wary142 (r : Nat) : cf.wary 142 r = false := rfl
@[simp] theorem c_clone142 : cf.clone 142 = none := rfl
@[simp] theorem k_out142 : kn.out 142 = .own [[none, some (.i .i64)]] := rfl
@[simp] theorem k_args142 : kn.args 142 = [[none, some (.i .i64)]] := rfl
@[simp] theorem k_nils142 : kn.nils 142 = fun _ => none := rfl
@[simp] theorem k_gc142 : kn.gc 142 = true := rfl
@[simp] theorem k_ali142 : kn.ali 142 = false := rfl
/-! 143: impl.up -/
@[simp] theorem c_keep143 (r : Nat) : cf.keep 143 r = tab143.getD r [] := rfl
@[simp] theorem c_pure143 : cf.pure 143 = true := rfl
@[simp] theorem c_pack143 : cf.pack 143 = .whole := rfl
@[simp] theorem c_wary143 (r : Nat) : cf.wary 143 r = false := rfl
@[simp] theorem c_clone143 : cf.clone 143 = none := rfl
@[simp] theorem k_out143 : kn.out 143 = .own [[some (.i .i64)]] := rfl
@[simp] theorem k_args143 : kn.args 143 = [[some (.i .i64)]] := rfl
@[simp] theorem k_nils143 : kn.nils 143 = nil143 := rfl
@[simp] theorem k_gc143 : kn.gc 143 = true := rfl
@[simp] theorem k_ali143 : kn.ali 143 = false := rfl
/-! 144: spec.l2shl -/
@[simp] theorem c_keep144 (r : Nat) : cf.keep 144 r = tab144.getD r [] := rfl
@[simp] theorem c_pure144 : cf.pure 144 = true := rfl
@[simp] theorem c_pack144 : cf.pack 144 = .whole := rfl
@[simp] theorem c_wary144 (r : Nat) : cf.wary 144 r = false := rfl
@[simp] theorem c_clone144 : cf.clone 144 = none := rfl
@[simp] theorem k_out144 : kn.out 144 = .frz [[some (.i .i64)]] := rfl
@[simp] theorem k_args144 : kn.args 144 = [[some (.i .i64)]] := rfl
@[simp] theorem k_nils144 : kn.nils 144 = fun _ => none := rfl
@[simp] theorem k_gc144 : kn.gc 144 = true := rfl
@[simp] theorem k_ali144 : kn.ali 144 = false := rfl
/-! 145: spec.l2bits -/
@[simp] theorem c_keep145 (r : Nat) : cf.keep 145 r = tab145.getD r [] := rfl
@[simp] theorem c_pure145 : cf.pure 145 = true := rfl
@[simp] theorem c_pack145 : cf.pack 145 = .whole := rfl
@[simp] theorem c_wary145 (r : Nat) : cf.wary 145 r = false := rfl
@[simp] theorem c_clone145 : cf.clone 145 = none := rfl
@[simp] theorem k_out145 : kn.out 145 = .frz [] := rfl
@[simp] theorem k_args145 : kn.args 145 = [[some (.i .i64)]] := rfl
@[simp] theorem k_nils145 : kn.nils 145 = fun _ => none := rfl
@[simp] theorem k_gc145 : kn.gc 145 = true := rfl
@[simp] theorem k_ali145 : kn.ali 145 = false := rfl
/-! 146: spec.l2div -/
@[simp] theorem c_keep146 (r : Nat) : cf.keep 146 r = tab146.getD r [] := rfl
@[simp] theorem c_pure146 : cf.pure 146 = true := rfl
@[simp] theorem c_pack146 : cf.pack 146 = .whole := rfl
@[simp] theorem c_wary146 (r : Nat) : cf.wary 146 r = (r == 18) := rfl
@[simp] theorem c_clone146 : cf.clone 146 = none := rfl
@[simp] theorem k_out146 : kn.out 146 = .frz [[some (.i .i64)], [some (.i .i64)]] := rfl
@[simp] theorem k_args146 : kn.args 146 = [[some (.i .i64)], [some (.i .i64)]] := rfl
@[simp] theorem k_nils146 : kn.nils 146 = fun _ => none := rfl
@[simp] theorem k_gc146 : kn.gc 146 = true := rfl
@[simp] theorem k_ali146 : kn.ali 146 = false := rfl
/-! 147: spec.l2shr -/
@[simp] theorem c_keep147 (r : Nat) : cf.keep 147 r = tab147.getD r [] := rfl
@[simp] theorem c_pure147 : cf.pure 147 = true := rfl
@[simp] theorem c_pack147 : cf.pack 147 = .whole := rfl
@[simp] theorem c_wary147 (r : Nat) : cf.wary 147 r = false := rfl
@[simp] theorem c_clone147 : cf.clone 147 = none := rfl
@[simp] theorem k_out147 : kn.out 147 = .frz [[some (.i .i64)]] := rfl
@[simp] theorem k_args147 : kn.args 147 = [[some (.i .i64)]] := rfl
@[simp] theorem k_nils147 : kn.nils 147 = fun _ => none := rfl
@[simp] theorem k_gc147 : kn.gc 147 = true := rfl
@[simp] theorem k_ali147 : kn.ali 147 = false := rfl
/-! 148: spec.l2cmp -/
@[simp] theorem c_keep148 (r : Nat) : cf.keep 148 r = tab148.getD r [] := rfl
@[simp] theorem c_pure148 : cf.pure 148 = true := rfl
@[simp] theorem c_pack148 : cf.pack 148 = .whole := rfl
@[simp] theorem c_wary148 (r : Nat) : cf.wary 148 r = false := rfl
@[simp] theorem c_clone148 : cf.clone 148 = none := rfl
@[simp] theorem k_out148 : kn.out 148 = .frz [] := rfl
@[simp] theorem k_args148 : kn.args 148 = [[some (.i .i64)], [some (.i .i64)]] := rfl
@[simp] theorem k_nils148 : kn.nils 148 = fun _ => none := rfl
@[simp] theorem k_gc148 : kn.gc 148 = true := rfl
@[simp] theorem k_ali148 : kn.ali 148 = false := rfl
/-! 149: impl.bitsOf -/
@[simp] theorem c_keep149 (r : Nat) : cf.keep 149 r = tab149.getD r [] := rfl
@[simp] theorem c_pure149 : cf.pure 149 = true := rfl
@[simp] theorem c_pack149 : cf.pack 149 = .whole := rfl
@[simp] theorem c_wary149 (r : Nat) : cf.wary 149 r = false := rfl
@[simp] theorem c_clone149 : cf.clone 149 = none := rfl
@[simp] theorem k_out149 : kn.out 149 = .frz [] := rfl
@[simp] theorem k_args149 : kn.args 149 = [[some (.i .i64)]] := rfl
@[simp] theorem k_nils149 : kn.nils 149 = fun _ => none := rfl
@[simp] theorem k_gc149 : kn.gc 149 = true := rfl
@[simp] theorem k_ali149 : kn.ali 149 = false := rfl
/-! 150: impl.down -/
@[simp] theorem c_keep150 (r : Nat) : cf.keep 150 r = tab150.getD r [] := rfl
@[simp] theorem c_pure150 : cf.pure 150 = true := rfl
@[simp] theorem c_pack150 : cf.pack 150 = .whole := rfl
@[simp] theorem c_wary150 (r : Nat) : cf.wary 150 r = false := rfl
@[simp] theorem c_clone150 : cf.clone 150 = none := rfl
@[simp] theorem k_out150 : kn.out 150 = .own [[some (.i .i64)]] := rfl
@[simp] theorem k_args150 : kn.args 150 = [[some (.i .i64)]] := rfl
@[simp] theorem k_nils150 : kn.nils 150 = nil150 := rfl
@[simp] theorem k_gc150 : kn.gc 150 = true := rfl
@[simp] theorem k_ali150 : kn.ali 150 = false := rfl
/-! 151: spec.l2fits -/
@[simp] theorem c_keep151 (r : Nat) : cf.keep 151 r = tab151.getD r [] := rfl
@[simp] theorem c_pure151 : cf.pure 151 = true := rfl
@[simp] theorem c_pack151 : cf.pack 151 = .whole := rfl
@[simp] theorem c_wary151 (r : Nat) : cf.wary 151 r = false := rfl
@[simp] theorem c_clone151 : cf.clone 151 = none := rfl
@[simp] theorem k_out151 : kn.out 151 = .frz [[some (.i .i64)]] := rfl
@[simp] theorem k_args151 : kn.args 151 = [[some (.i .i64)]] := rfl
@[simp] theorem k_nils151 : kn.nils 151 = fun _ => none := rfl
@[simp] theorem k_gc151 : kn.gc 151 = true := rfl
@[simp] theorem k_ali151 : kn.ali 151 = false := rfl
/-! 152: math/bits.Len -/
@[simp] theorem c_keep152 (r : Nat) : cf.keep 152 r = tab152.getD r [] := rfl
@[simp] theorem c_pure152 : cf.pure 152 = true := rfl
@[simp] theorem c_pack152 : cf.pack 152 = .whole := rfl
@[simp] theorem c_wary152 (r : Nat) : cf.wary 152 r = false := rfl
@[simp] theorem c_clone152 : cf.clone 152 = none := rfl
@[simp] theorem k_out152 : kn.out 152 = .frz [] := rfl
@[simp] theorem k_args152 : kn.args 152 = [] := rfl
@[simp] theorem k_nils152 : kn.nils 152 = fun _ => none := rfl
@[simp] theorem k_gc152 : kn.gc 152 = true := rfl
@[simp] theorem k_ali152 : kn.ali 152 = false := rfl
/-! 153: impl.digitOf -/
@[simp] theorem c_keep153 (r : Nat) : cf.keep 153 r = tab153.getD r [] := rfl
@[simp] theorem c_pure153 : cf.pure 153 = true := rfl
@[simp] theorem c_pack153 : cf.pack 153 = .whole := rfl
@[simp] theorem c_wary153 (r : Nat) : cf.wary 153 r = false := rfl
@[simp] theorem c_clone153 : cf.clone 153 = none := rfl
@[simp] theorem k_out153 : kn.out 153 = .frz [] := rfl
@[simp] theorem k_args153 : kn.args 153 = [[some (.i .i64)], [some (.i .i64)]] := rfl
@[simp] theorem k_nils153 : kn.nils 153 = fun _ => none := rfl
@[simp] theorem k_gc153 : kn.gc 153 = true := rfl
@[simp] theorem k_ali153 : kn.ali 153 = false := rfl
/-! 154: impl.takeAway -/
@[simp] theorem c_keep154 (r : Nat) : cf.keep 154 r = tab154.getD r [] := rfl
@[simp] theorem c_pure154 : cf.pure 154 = false := rfl
@[simp] theorem c_pack154 : cf.pack 154 = .whole := rfl
@[simp] theorem c_wary154 (r : Nat) : cf.wary 154 r = false := rfl
@[simp] theorem c_clone154 : cf.clone 154 = none := rfl
@[simp] theorem k_out154 : kn.out 154 = .inl := rfl
@[simp] theorem k_args154 : kn.args 154 = [] := rfl
@[simp] theorem k_nils154 : kn.nils 154 = fun _ => none := rfl
@[simp] theorem k_gc154 : kn.gc 154 = false := rfl
@[simp] theorem k_ali154 : kn.ali 154 = false := rfl
/-! 155: impl.addBack -/
@[simp] theorem c_keep155 (r : Nat) : cf.keep 155 r = tab155.getD r [] := rfl
@[simp] theorem c_pure155 : cf.pure 155 = false := rfl
@[simp] theorem c_pack155 : cf.pack 155 = .whole := rfl
@[simp] theorem c_wary155 (r : Nat) : cf.wary 155 r = false := rfl
@[simp] theorem c_clone155 : cf.clone 155 = none := rfl
@[simp] theorem k_out155 : kn.out 155 = .inl := rfl
@[simp] theorem k_args155 : kn.args 155 = [] := rfl
@[simp] theorem k_nils155 : kn.nils 155 = fun _ => none := rfl
@[simp] theorem k_gc155 : kn.gc 155 = false := rfl
@[simp] theorem k_ali155 : kn.ali 155 = false := rfl
/-! 156: spec.l2sub -/
@[simp] theorem c_keep156 (r : Nat) : cf.keep 156 r = tab156.getD r [] := rfl
@[simp] theorem c_pure156 : cf.pure 156 = true := rfl
@[simp] theorem c_pack156 : cf.pack 156 = .whole := rfl
@[simp] theorem c_wary156 (r : Nat) : cf.wary 156 r = false := rfl
@[simp] theorem c_clone156 : cf.clone 156 = none := rfl
@[simp] theorem k_out156 : kn.out 156 = .frz [[some (.i .i64)]] := rfl
@[simp] theorem k_args156 : kn.args 156 = [[some (.i .i64)], [some (.i .i64)]] := rfl
@[simp] theorem k_nils156 : kn.nils 156 = nil156 := rfl
@[simp] theorem k_gc156 : kn.gc 156 = true := rfl
@[simp] theorem k_ali156 : kn.ali 156 = false := rfl
/-! 158: spec.l1Byte -/
@[simp] theorem c_keep158 (r : Nat) : cf.keep 158 r = tab158.getD r [] := rfl
@[simp] theorem c_pure158 : cf.pure 158 = false := rfl
@[simp] theorem c_pack158 : cf.pack 158 = .whole := rfl
@[simp] theorem c_wary158 (r : Nat) : cf.wary 158 r = false := rfl
@[simp] theorem c_clone158 : cf.clone 158 = none := rfl
@[simp] theorem k_out158 : kn.out 158 = .inl := rfl
@[simp] theorem k_args158 : kn.args 158 = [] := rfl
@[simp] theorem k_nils158 : kn.nils 158 = fun _ => none := rfl
@[simp] theorem k_gc158 : kn.gc 158 = false := rfl
@[simp] theorem k_ali158 : kn.ali 158 = false := rfl
/-! 159: impl.RuneBytes -/
@[simp] theorem c_keep159 (r : Nat) : cf.keep 159 r = tab159.getD r [] := rfl
@[simp] theorem c_pure159 : cf.pure 159 = true := rfl
@[simp] theorem c_pack159 : cf.pack 159 = .whole := rfl
@[simp] theorem c_wary159 (r : Nat) : cf.wary 159 r = false := rfl
@[simp] theorem c_clone159 : cf.clone 159 = none := rfl
@[simp] theorem k_out159 : kn.out 159 = .own [[some (.i .u8)]] := rfl
@[simp] theorem k_args159 : kn.args 159 = [] := rfl
@[simp] theorem k_nils159 : kn.nils 159 = nil159 := rfl
@[simp] theorem k_gc159 : kn.gc 159 = true := rfl
@[simp] theorem k_ali159 : kn.ali 159 = false := rfl
/-! 160: spec.l1may -/
@[simp] theorem c_keep160 (r : Nat) : cf.keep 160 r = tab160.getD r [] := rfl
@[simp] theorem c_pure160 : cf.pure 160 = true := rfl
@[simp] theorem c_pack160 : cf.pack 160 = .whole := rfl
@[simp] theorem c_wary160 (r : Nat) : cf.wary 160 r = false := rfl
@[simp] theorem c_clone160 : cf.clone 160 = none := rfl
@[simp] theorem k_out160 : kn.out 160 = .frz [] := rfl
@[simp] theorem k_args160 : kn.args 160 = [] := rfl
@[simp] theorem k_nils160 : kn.nils 160 = fun _ => none := rfl
@[simp] theorem k_gc160 : kn.gc 160 = true := rfl
@[simp] theorem k_ali160 : kn.ali 160 = false := rfl
/-! 161: impl.runeAt -/
@[simp] theorem c_keep161 (r : Nat) : cf.keep 161 r = tab161.getD r [] := rfl
@[simp] theorem c_pure161 : cf.pure 161 = true := rfl
@[simp] theorem c_pack161 : cf.pack 161 = .whole := rfl
@[simp] theorem c_wary161 (r : Nat) : cf.wary 161 r = false := rfl
@[simp] theorem c_clone161 : cf.clone 161 = none := rfl
@[simp] theorem k_out161 : kn.out 161 = .frz [] := rfl
@[simp] theorem k_args161 : kn.args 161 = [[some (.i .u8)]] := rfl
@[simp] theorem k_nils161 : kn.nils 161 = fun _ => none := rfl
@[simp] theorem k_gc161 : kn.gc 161 = true := rfl
@[simp] theorem k_ali161 : kn.ali 161 = false := rfl
/-! 162: slices.Index[[]int,int] -/
@[simp] theorem c_keep162 (r : Nat) : cf.keep 162 r = tab162.getD r [] := rfl
@[simp] theorem c_pure162 : cf.pure 162 = true := rfl
@[simp] theorem c_pack162 : cf.pack 162 = .whole := rfl
@[simp] theorem c_wary162 (r : Nat) : cf.wary 162 r = false := rfl
@[simp] theorem c_clone162 : cf.clone 162 = none := rfl
@[simp] theorem k_out162 : kn.out 162 = .frz [] := rfl
@[simp] theorem k_args162 : kn.args 162 = [[some (.i .i64)]] := rfl
@[simp] theorem k_nils162 : kn.nils 162 = fun _ => none := rfl
@[simp] theorem k_gc162 : kn.gc 162 = true := rfl
@[simp] theorem k_ali162 : kn.ali 162 = false := rfl
/-! 163: spec.Runes -/
@[simp] theorem c_keep163 (r : Nat) : cf.keep 163 r = tab163.getD r [] := rfl
@[simp] theorem c_pure163 : cf.pure 163 = true := rfl
@[simp] theorem c_pack163 : cf.pack 163 = .whole := rfl
@[simp] theorem c_wary163 (r : Nat) : cf.wary 163 r = false := rfl
@[simp] theorem c_clone163 : cf.clone 163 = none := rfl
@[simp] theorem k_out163 : kn.out 163 = .frz [[some (.i .i64)]] := rfl
@[simp] theorem k_args163 : kn.args 163 = [[some (.i .u8)]] := rfl
@[simp] theorem k_nils163 : kn.nils 163 = nil163 := rfl
@[simp] theorem k_gc163 : kn.gc 163 = true := rfl
@[simp] theorem k_ali163 : kn.ali 163 = false := rfl
/-! 164: spec.DigitOf -/
@[simp] theorem c_keep164 (r : Nat) : cf.keep 164 r = tab164.getD r [] := rfl
@[simp] theorem c_pure164 : cf.pure 164 = true := rfl
@[simp] theorem c_pack164 : cf.pack 164 = .whole := rfl
@[simp] theorem c_wary164 (r : Nat) : cf.wary 164 r = false := rfl
@[simp] theorem c_clone164 : cf.clone 164 = none := rfl
@[simp] theorem k_out164 : kn.out 164 = .frz [] := rfl
@[simp] theorem k_args164 : kn.args 164 = [] := rfl
@[simp] theorem k_nils164 : kn.nils 164 = fun _ => none := rfl
@[simp] theorem k_gc164 : kn.gc 164 = true := rfl
@[simp] theorem k_ali164 : kn.ali 164 = false := rfl
/-! 165: spec.SignOf -/
@[simp] theorem c_keep165 (r : Nat) : cf.keep 165 r = tab165.getD r [] := rfl
@[simp] theorem c_pure165 : cf.pure 165 = true := rfl
@[simp] theorem c_pack165 : cf.pack 165 = .whole := rfl
@[simp] theorem c_wary165 (r : Nat) : cf.wary 165 r = false := rfl
@[simp] theorem c_clone165 : cf.clone 165 = none := rfl
@[simp] theorem k_out165 : kn.out 165 = .frz [] := rfl
@[simp] theorem k_args165 : kn.args 165 = [] := rfl
@[simp] theorem k_nils165 : kn.nils 165 = fun _ => none := rfl
@[simp] theorem k_gc165 : kn.gc 165 = true := rfl
@[simp] theorem k_ali165 : kn.ali 165 = false := rfl
/-! 166: spec.IsBlank -/
@[simp] theorem c_keep166 (r : Nat) : cf.keep 166 r = tab166.getD r [] := rfl
@[simp] theorem c_pure166 : cf.pure 166 = true := rfl
@[simp] theorem c_pack166 : cf.pack 166 = .whole := rfl
@[simp] theorem c_wary166 (r : Nat) : cf.wary 166 r = false := rfl
@[simp] theorem c_clone166 : cf.clone 166 = none := rfl
@[simp] theorem k_out166 : kn.out 166 = .frz [] := rfl
@[simp] theorem k_args166 : kn.args 166 = [] := rfl
@[simp] theorem k_nils166 : kn.nils 166 = fun _ => none := rfl
@[simp] theorem k_gc166 : kn.gc 166 = true := rfl
@[simp] theorem k_ali166 : kn.ali 166 = false := rfl
/-! 167: slices.IndexFunc[[]int,int] -/
@[simp] theorem c_keep167 (r : Nat) : cf.keep 167 r = tab167.getD r [] := rfl
@[simp] theorem c_pure167 : cf.pure 167 = true := rfl
@[simp] theorem c_pack167 : cf.pack 167 = .whole := rfl
@[simp] theorem c_wary167 (r : Nat) : cf.wary 167 r = false := rfl
@[simp] theorem c_clone167 : cf.clone 167 = none := rfl
@[simp] theorem k_out167 : kn.out 167 = .frz [] := rfl
@[simp] theorem k_args167 : kn.args 167 = [[some (.i .i64)]] := rfl
@[simp] theorem k_nils167 : kn.nils 167 = fun _ => none := rfl
@[simp] theorem k_gc167 : kn.gc 167 = true := rfl
@[simp] theorem k_ali167 : kn.ali 167 = false := rfl
/-! 168: cmp.isNaN[int] -/
@[simp] theorem c_keep168 (r : Nat) : cf.keep 168 r = tab168.getD r [] := rfl
@[simp] theorem c_pure168 : cf.pure 168 = true := rfl
@[simp] theorem c_pack168 : cf.pack 168 = .whole := rfl
@[simp] theorem c_wary168 (r : Nat) : cf.wary 168 r = false := rfl
@[simp] theorem c_clone168 : cf.clone 168 = none := rfl
@[simp] theorem k_out168 : kn.out 168 = .frz [] := rfl
@[simp] theorem k_args168 : kn.args 168 = [] := rfl
@[simp] theorem k_nils168 : kn.nils 168 = fun _ => none := rfl
@[simp] theorem k_gc168 : kn.gc 168 = true := rfl
@[simp] theorem k_ali168 : kn.ali 168 = false := rfl
/-! 169: slices.ContainsFunc[[]byte,byte] -/
@[simp] theorem c_keep169 (r : Nat) : cf.keep 169 r = tab169.getD r [] := rfl
@[simp] theorem c_pure169 : cf.pure 169 = true := rfl
@[simp] theorem c_pack169 : cf.pack 169 = .whole := rfl
@[simp] theorem c_wary169 (r : Nat) : cf.wary 169 r = false := rfl
@[simp] theorem c_clone169 : cf.clone 169 = none := rfl
@[simp] theorem k_out169 : kn.out 169 = .frz [] := rfl
@[simp] theorem k_args169 : kn.args 169 = [[some (.i .u8)]] := rfl
@[simp] theorem k_nils169 : kn.nils 169 = fun _ => none := rfl
@[simp] theorem k_gc169 : kn.gc 169 = true := rfl
@[simp] theorem k_ali169 : kn.ali 169 = false := rfl
/-! 170: impl.areAll[byte]$1 -/
@[simp] theorem c_keep170 (r : Nat) : cf.keep 170 r = tab170.getD r [] := rfl
@[simp] theorem c_pure170 : cf.pure 170 = true := rfl
@[simp] theorem c_pack170 : cf.pack 170 = .whole := rfl
@[simp] theorem c_wary170 (r : Nat) : cf.wary 170 r = false := rfl
@[simp] theorem c_clone170 : cf.clone 170 = none := rfl
@[simp] theorem k_out170 : kn.out 170 = .frz [] := rfl
@[simp] theorem k_args170 : kn.args 170 = [] := rfl
@[simp] theorem k_nils170 : kn.nils 170 = fun _ => none := rfl
@[simp] theorem k_gc170 : kn.gc 170 = true := rfl
@[simp] theorem k_ali170 : kn.ali 170 = false := rfl
/-! 171: math/bits.Len32 -/
@[simp] theorem c_keep171 (r : Nat) : cf.keep 171 r = tab171.getD r [] := rfl
@[simp] theorem c_pure171 : cf.pure 171 = true := rfl
@[simp] theorem c_pack171 : cf.pack 171 = .whole := rfl
@[simp] theorem c_wary171 (r : Nat) : cf.wary 171 r = false := rfl
@[simp] theorem c_clone171 : cf.clone 171 = none := rfl
@[simp] theorem k_out171 : kn.out 171 = .frz [] := rfl
@[simp] theorem k_args171 : kn.args 171 = [] := rfl
@[simp] theorem k_nils171 : kn.nils 171 = fun _ => none := rfl
@[simp] theorem k_gc171 : kn.gc 171 = true := rfl
@[simp] theorem k_ali171 : kn.ali 171 = false := rfl
/-! 172: math/bits.Len64 -/
@[simp] theorem c_keep172 (r : Nat) : cf.keep 172 r = tab172.getD r [] := rfl
@[simp] theorem c_pure172 : cf.pure 172 = true := rfl
@[simp] theorem c_pack172 : cf.pack 172 = .whole := rfl
@[simp] theorem c_wary172 (r : Nat) : cf.wary 172 r = false := rfl
@[simp] theorem c_clone172 : cf.clone 172 = none := rfl
@[simp] theorem k_out172 : kn.out 172 = .frz [] := rfl
@[simp] theorem k_args172 : kn.args 172 = [] := rfl
@[simp] theorem k_nils172 : kn.nils 172 = fun _ => none := rfl
@[simp] theorem k_gc172 : kn.gc 172 = true := rfl
@[simp] theorem k_ali172 : kn.ali 172 = false := rfl
/-! 173: impl.isPoint -/
@[simp] theorem c_keep173 (r : Nat) : cf.keep 173 r = tab173.getD r [] := rfl
@[simp] theorem c_pure173 : cf.pure 173 = true := rfl
@[simp] theorem c_pack173 : cf.pack 173 = .whole := rfl
@[simp] theorem c_wary173 (r : Nat) : cf.wary 173 r = false := rfl
@[simp] theorem c_clone173 : cf.clone 173 = none := rfl
@[simp] theorem k_out173 : kn.out 173 = .frz [] := rfl
@[simp] theorem k_args173 : kn.args 173 = [] := rfl
@[simp] theorem k_nils173 : kn.nils 173 = fun _ => none := rfl
@[simp] theorem k_gc173 : kn.gc 173 = true := rfl
@[simp] theorem k_ali173 : kn.ali 173 = false := rfl
/-! 174: impl.sizeOf -/
@[simp] theorem c_keep174 (r : Nat) : cf.keep 174 r = tab174.getD r [] := rfl
@[simp] theorem c_pure174 : cf.pure 174 = true := rfl
@[simp] theorem c_pack174 : cf.pack 174 = .whole := rfl
@[simp] theorem c_wary174 (r : Nat) : cf.wary 174 r = false := rfl
@[simp] theorem c_clone174 : cf.clone 174 = none := rfl
@[simp] theorem k_out174 : kn.out 174 = .frz [] := rfl
@[simp] theorem k_args174 : kn.args 174 = [] := rfl
@[simp] theorem k_nils174 : kn.nils 174 = fun _ => none := rfl
@[simp] theorem k_gc174 : kn.gc 174 = true := rfl
@[simp] theorem k_ali174 : kn.ali 174 = false := rfl
/-! 175: impl.leadSize -/
@[simp] theorem c_keep175 (r : Nat) : cf.keep 175 r = tab175.getD r [] := rfl
@[simp] theorem c_pure175 : cf.pure 175 = true := rfl
@[simp] theorem c_pack175 : cf.pack 175 = .whole := rfl
@[simp] theorem c_wary175 (r : Nat) : cf.wary 175 r = false := rfl
@[simp] theorem c_clone175 : cf.clone 175 = none := rfl
@[simp] theorem k_out175 : kn.out 175 = .frz [] := rfl
@[simp] theorem k_args175 : kn.args 175 = [] := rfl
@[simp] theorem k_nils175 : kn.nils 175 = fun _ => none := rfl
@[simp] theorem k_gc175 : kn.gc 175 = true := rfl
@[simp] theorem k_ali175 : kn.ali 175 = false := rfl
/-! 176: spec.l1rune -/
@[simp] theorem c_keep176 (r : Nat) : cf.keep 176 r = tab176.getD r [] := rfl
@[simp] theorem c_pure176 : cf.pure 176 = true := rfl
@[simp] theorem c_pack176 : cf.pack 176 = .whole := rfl
@[simp] theorem c_wary176 (r : Nat) : cf.wary 176 r = false := rfl
@[simp] theorem c_clone176 : cf.clone 176 = none := rfl
@[simp] theorem k_out176 : kn.out 176 = .frz [] := rfl
@[simp] theorem k_args176 : kn.args 176 = [[some (.i .u8)]] := rfl
@[simp] theorem k_nils176 : kn.nils 176 = fun _ => none := rfl
@[simp] theorem k_gc176 : kn.gc 176 = true := rfl
@[simp] theorem k_ali176 : kn.ali 176 = false := rfl
/-! 177: slices.IndexFunc[[]byte,byte] -/
@[simp] theorem c_keep177 (r : Nat) : cf.keep 177 r = tab177.getD r [] := rfl
@[simp] theorem c_pure177 : cf.pure 177 = true := rfl
@[simp] theorem c_pack177 : cf.pack 177 = .whole := rfl
@[simp] theorem c_wary177 (r : Nat) : cf.wary 177 r = false := rfl
@[simp] theorem c_clone177 : cf.clone 177 = none := rfl
@[simp] theorem k_out177 : kn.out 177 = .frz [] := rfl
@[simp] theorem k_args177 : kn.args 177 = [[some (.i .u8)]] := rfl
@[simp] theorem k_nils177 : kn.nils 177 = fun _ => none := rfl
@[simp] theorem k_gc177 : kn.gc 177 = true := rfl
@[simp] theorem k_ali177 : kn.ali 177 = false := rfl
/-! 178: spec.l1tail -/
@[simp] theorem c_keep178 (r : Nat) : cf.keep 178 r = tab178.getD r [] := rfl
@[simp] theorem c_pure178 : cf.pure 178 = true := rfl
@[simp] theorem c_pack178 : cf.pack 178 = .whole := rfl
@[simp] theorem c_wary178 (r : Nat) : cf.wary 178 r = false := rfl
@[simp] theorem c_clone178 : cf.clone 178 = none := rfl
@[simp] theorem k_out178 : kn.out 178 = .frz [] := rfl
@[simp] theorem k_args178 : kn.args 178 = [[some (.i .u8)]] := rfl
@[simp] theorem k_nils178 : kn.nils 178 = fun _ => none := rfl
@[simp] theorem k_gc178 : kn.gc 178 = true := rfl
@[simp] theorem k_ali178 : kn.ali 178 = false := rfl
theorem kept0 : ((impL ++ aliL).all fun f => (match kn.out f with | .inl => true | _ => false) && !kn.gc f) = true := by kernel_rfl
theorem kept1 (f : FuncId) : (cf.pure f = true ∧ kn.ali f = false) ∨ (kn.out f = .inl ∧ kn.gc f = false) := by
  cases hb : (impL ++ aliL).contains f with
  | false =>
    have h1 : ¬ f ∈ impL ++ aliL := fun h => by rw [List.contains_iff_mem.2 h] at hb; simp at hb
    rw [List.mem_append] at h1
    refine .inl ⟨?_, ?_⟩
    · show (!impL.contains f) = true
      cases h2 : impL.contains f with
      | false => rfl
      | true => exact absurd (.inl (List.contains_iff_mem.1 h2)) h1
    · show aliL.contains f = false
      cases h2 : aliL.contains f with
      | false => rfl
      | true => exact absurd (.inr (List.contains_iff_mem.1 h2)) h1
  | true =>
    have h := List.all_eq_true.1 kept0 f (List.contains_iff_mem.1 hb)
    rw [Bool.and_eq_true] at h
    refine .inr ⟨?_, by simpa using h.2⟩
    cases ho : kn.out f with
    | inl => rfl
    | own ks => rw [ho] at h; simp at h
    | frz ks => rw [ho] at h; simp at h
theorem kept : Kept kn where
  gc f hg := (kept1 f).resolve_right fun h => by rw [h.2] at hg; simp at hg
  out f := (kept1 f).symm.imp (fun h ks e => by rw [h.1] at e; cases e) id
  own f := (kept1 f).symm.imp (fun h ks e => by rw [h.1] at e; cases e) id
/-- What the proof of the engine asks of a function. -/
def staticF (cf : Cfg) (f : FuncId) (m : PM) (fn : Func) : Bool := match m with
  | .no => true
  | _ => match fn.body with
    | some c => codeOk cf f fn.ntmps c && !(fn.name == "runtime.NumGoroutine")
    | none => true
theorem static_all : ((List.range Try.prog.funcs.size).all fun f => Try.prog.funcs[f]?.all (staticF cf f (cf.pack f))) = true := by kernel_rfl
theorem static : Static Try.prog cf := fun f fn c hf hb hno => by
  have h := List.all_eq_true.1 static_all f (List.mem_range.2 (Array.getElem?_eq_some_iff.1 hf).1)
  rw [hf] at h
  simp only [Option.all_some] at h
  unfold staticF at h
  split at h
  · rename_i e; exact absurd e hno
  · rw [hb] at h; simpa using h
@[simp] theorem c_rounds : cf.rounds = 4294967296 := rfl
end Go.Eng
