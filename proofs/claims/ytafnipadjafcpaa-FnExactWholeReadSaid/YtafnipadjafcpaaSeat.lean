/- The value engine: the tables of this seat: types, and of each function what its regions and its calls leave. Printed by a program of this session. No conditions. -/
import Derived.Test.YtafnipadjafcpaaProg
import Derived.Test.YtafnipadjafcpaaVb
import Derived.KernelRfl
set_option linter.unusedVariables false
set_option linter.unusedSimpArgs false
namespace Go.Eng
open Go.Proofs
set_option maxRecDepth 100000
@[simp] theorem ty_u_3 : Try.prog.underlying 3 = some (.int .i64) := by kernel_rfl
@[simp] theorem ty_k_3 : kindOf Try.prog 3 = some .i64 := by kernel_rfl
@[simp] theorem ty_a_3 : aggT Try.prog 3 = some false := by kernel_rfl
@[simp] theorem ty_s_3 : sizeT Try.prog 3 = some 1 := by kernel_rfl
@[simp] theorem ty_b_3 : bytesT Try.prog 3 = some 8 := by kernel_rfl
@[simp] theorem ty_z_3 : zeroT Try.prog 3 = some (.c (.int .i64 0)) := by kernel_rfl
@[simp] theorem ty_u_4 : Try.prog.underlying 4 = some (.bool) := by kernel_rfl
@[simp] theorem ty_k_4 : kindOf Try.prog 4 = none := by kernel_rfl
@[simp] theorem ty_a_4 : aggT Try.prog 4 = some false := by kernel_rfl
@[simp] theorem ty_s_4 : sizeT Try.prog 4 = some 1 := by kernel_rfl
@[simp] theorem ty_b_4 : bytesT Try.prog 4 = some 1 := by kernel_rfl
@[simp] theorem ty_z_4 : zeroT Try.prog 4 = some (.c (.bool false)) := by kernel_rfl
@[simp] theorem ty_u_5 : Try.prog.underlying 5 = some (.int .u8) := by kernel_rfl
@[simp] theorem ty_k_5 : kindOf Try.prog 5 = some .u8 := by kernel_rfl
@[simp] theorem ty_a_5 : aggT Try.prog 5 = some false := by kernel_rfl
@[simp] theorem ty_s_5 : sizeT Try.prog 5 = some 1 := by kernel_rfl
@[simp] theorem ty_b_5 : bytesT Try.prog 5 = some 1 := by kernel_rfl
@[simp] theorem ty_z_5 : zeroT Try.prog 5 = some (.c (.int .u8 0)) := by kernel_rfl
@[simp] theorem ty_u_22 : Try.prog.underlying 22 = some (.slice 5) := by kernel_rfl
@[simp] theorem ty_k_22 : kindOf Try.prog 22 = none := by kernel_rfl
@[simp] theorem ty_a_22 : aggT Try.prog 22 = some false := by kernel_rfl
@[simp] theorem ty_s_22 : sizeT Try.prog 22 = some 1 := by kernel_rfl
@[simp] theorem ty_b_22 : bytesT Try.prog 22 = some 24 := by kernel_rfl
@[simp] theorem ty_e_22 : elemS Try.prog 22 = some 5 := by kernel_rfl
@[simp] theorem ty_z_22 : zeroT Try.prog 22 = some (.c (.nil)) := by kernel_rfl
@[simp] theorem ty_u_23 : Try.prog.underlying 23 = some (.slice 3) := by kernel_rfl
@[simp] theorem ty_k_23 : kindOf Try.prog 23 = none := by kernel_rfl
@[simp] theorem ty_a_23 : aggT Try.prog 23 = some false := by kernel_rfl
@[simp] theorem ty_s_23 : sizeT Try.prog 23 = some 1 := by kernel_rfl
@[simp] theorem ty_b_23 : bytesT Try.prog 23 = some 24 := by kernel_rfl
@[simp] theorem ty_e_23 : elemS Try.prog 23 = some 3 := by kernel_rfl
@[simp] theorem ty_z_23 : zeroT Try.prog 23 = some (.c (.nil)) := by kernel_rfl
@[simp] theorem ty_k_25 : kindOf Try.prog 25 = none := by kernel_rfl
@[simp] theorem ty_a_25 : aggT Try.prog 25 = some true := by kernel_rfl
@[simp] theorem ty_s_25 : sizeT Try.prog 25 = some 1 := by kernel_rfl
@[simp] theorem ty_b_25 : bytesT Try.prog 25 = some 24 := by kernel_rfl
@[simp] theorem ty_z_25 : zeroT Try.prog 25 = some (.agg [.nil]) := by kernel_rfl
@[simp] theorem ty_f_25_0 : fieldOf Try.prog 25 0 = some (0, 1, false) := by kernel_rfl
@[simp] theorem ty_p_25 : placesB Try.prog 25 = some [(0, 1)] := by kernel_rfl
@[simp] theorem ty_k_27 : kindOf Try.prog 27 = none := by kernel_rfl
@[simp] theorem ty_a_27 : aggT Try.prog 27 = some true := by kernel_rfl
@[simp] theorem ty_s_27 : sizeT Try.prog 27 = some 2 := by kernel_rfl
@[simp] theorem ty_b_27 : bytesT Try.prog 27 = some 32 := by kernel_rfl
@[simp] theorem ty_z_27 : zeroT Try.prog 27 = some (.agg [.bool false, .nil]) := by kernel_rfl
@[simp] theorem ty_f_27_0 : fieldOf Try.prog 27 0 = some (0, 1, false) := by kernel_rfl
@[simp] theorem ty_f_27_1 : fieldOf Try.prog 27 1 = some (1, 1, true) := by kernel_rfl
@[simp] theorem ty_p_27 : placesB Try.prog 27 = some [(0, 1), (1, 1)] := by kernel_rfl
@[simp] theorem ty_k_63 : kindOf Try.prog 63 = none := by kernel_rfl
@[simp] theorem ty_a_63 : aggT Try.prog 63 = some false := by kernel_rfl
@[simp] theorem ty_s_63 : sizeT Try.prog 63 = some 1 := by kernel_rfl
@[simp] theorem ty_b_63 : bytesT Try.prog 63 = some 8 := by kernel_rfl
def tab3 : List (List Nat) := [[0], [0, 15], [2], [0, 3, 4], [0, 3, 4, 5], [0, 3, 4, 5, 6, 7], [0, 3, 4, 5, 6, 7, 37], [2], [0, 3, 4, 5, 6, 7, 42], [2], [0, 3, 4, 5, 6, 7, 8], [0, 3, 4, 6, 7, 8], [0, 3, 4, 6, 58], [2], [0, 3, 4, 6, 9], [0, 3, 4, 6, 9], [0, 3, 4, 6, 9, 10], [0, 3, 4, 6, 9, 10], [0, 3, 4, 6, 9, 10, 66], [2], [0, 3, 4, 6, 9, 69], [2], [3, 4, 6, 9, 11, 12], [6, 9, 84], [2], [6, 9, 10], [9, 10], [9, 10, 89], [2], [92], [2], [2]]
def tab5 : List (List Nat) := [[0, 2], [0, 2, 8], [2, 3], [2, 4], [2, 4, 5], [2, 4, 5, 26], [2, 4, 5], [2, 4, 5], [2, 4, 5, 35], [2, 3], [2, 3]]
def tab6 : List (List Nat) := [[0], [0, 3], [0, 3, 4], [0, 3, 4, 11], [0, 3, 4], [0, 3, 4], [2]]
def tab7 : List (List Nat) := [[0, 2], [0, 2, 8], [2, 3], [2, 4, 5], [2, 4, 5, 18], [2, 3], [2, 3]]
def tab8 : List (List Nat) := [[2, 3], [2, 3, 9], [4], [15], [4], [4]]
def tab9 : List (List Nat) := [[0, 1], [0, 1, 10], [4], [0, 1, 5], [0, 1, 5, 14], [0, 1, 5], [0, 1, 5, 25], [4], [4]]
def tab10 : List (List Nat) := [[0, 1], [0, 1, 5], [0, 1, 5, 9], [0, 1, 5], [0, 1, 5], [0, 1, 5], [4]]
def tab11 : List (List Nat) := [[1, 2], [1], [4]]
def tab12 : List (List Nat) := [[1, 2], [1], [1, 10], [4], [4]]
def tab14 : List (List Nat) := [[0], [0, 3], [3, 7, 8, 9], [3, 7, 8, 9, 10], [3, 5, 7, 8, 9], [3, 7, 8, 9], [3, 7, 8, 9], [2]]
def tab16 : List (List Nat) := [[0], [0, 7], [2], [3], [2]]
def tab17 : List (List Nat) := [[0], [0, 5, 6, 7], [0, 5, 6, 7, 8], [0, 4, 5, 6, 7], [0, 4, 5, 6, 7, 15], [2], [0, 5, 6, 7], [2]]
def tab18 : List (List Nat) := [[0], [2]]
def tab19 : List (List Nat) := [[0], [3], [3, 4], [3, 4], [2], [3, 7], [3, 7], [7], [2], [2]]
def tab22 : List (List Nat) := [[0], [3], [3, 4], [3, 4, 5], [3, 4, 5, 11], [3, 4, 5], [3, 4, 5], [3, 4, 5, 21], [3, 4, 5], [3, 4, 5, 38], [3, 4, 5], [3, 4, 5, 48], [3, 4, 5], [3, 4, 5, 58], [3, 4, 5], [2]]
def tab23 : List (List Nat) := [[0], [0, 3], [0, 3, 7], [0, 3], [0, 3, 21], [2], [2]]
def tab24 : List (List Nat) := [[1, 2], [1, 2, 8], [2, 3], [2, 3]]
def tab25 : List (List Nat) := [[0, 3, 4], [4]]
def tab26 : List (List Nat) := [[0, 2], [0, 2, 3], [0, 2, 3, 4], [0, 2, 3, 4, 8], [0, 2, 3, 4], [0, 2, 3, 4], [2]]
def tab27 : List (List Nat) := [[0], [0, 18], [2, 3], [2, 3]]
def tab28 : List (List Nat) := [[0], [2]]
def tab29 : List (List Nat) := [[0, 1, 4], [0, 1, 4, 6, 7], [0, 1, 4, 6, 14], [4, 5], [4, 5]]
def tab30 : List (List Nat) := [[0], [0, 3], [3, 6, 7, 8], [3, 6, 7, 8, 9], [3, 5, 6, 7, 8], [3, 6, 7, 8], [3, 6, 7, 8], [2]]
def tab31 : List (List Nat) := [[2, 3], [10], [4], [4]]
def tab32 : List (List Nat) := [[1, 2], [1], [4]]
def tab33 : List (List Nat) := [[1, 2], [1], [1, 10], [4], [4]]
def tab36 : List (List Nat) := [[0], [0, 3], [2], [0, 12], [2], [0, 18], [2], [0, 24], [2], [2]]
def tab40 : List (List Nat) := [[0], [0, 5], [2], [0, 6], [2], [0, 12], [2], [0, 24], [2], [2]]
def tab42 : List (List Nat) := [[0], [0, 4], [0, 4, 5], [0, 4, 5, 10], [0, 4, 5, 6, 7], [0, 4, 5, 6, 7], [0, 4, 5, 7], [0, 4, 5], [2, 3]]
def tab43 : List (List Nat) := [[0, 1, 2], [6]]
def tab44 : List (List Nat) := [[0, 1], [4]]
def tab46 : List (List Nat) := [[0], [0, 9], [2], [0, 3], [0, 3, 4], [0, 3, 4, 13], [0, 3, 4, 5, 6], [0, 3, 4, 6], [0, 3, 4], [2]]
def tab47 : List (List Nat) := [[0], [0, 3], [0, 3, 4], [0, 3, 4, 9], [0, 3, 4], [0, 3, 4, 26], [2], [2]]
def tab48 : List (List Nat) := [[0], [3], [3, 4], [3, 4], [2], [3, 7], [3, 7], [7], [2], [2]]
def tab49 : List (List Nat) := [[0], [2]]
def tab50 : List (List Nat) := [[0, 2], [0, 2, 3], [0, 2, 3, 15], [0, 2, 3], [2]]
def tab51 : List (List Nat) := [[2, 3, 4], [2, 3, 4, 5], [2, 3, 4, 5, 6], [2, 3, 4, 5, 6, 7], [2, 3, 4, 5, 6, 7, 24], [2, 3, 4, 5, 6, 7], [2, 3, 4, 5, 7, 8], [2, 3, 4, 5, 7, 8, 32], [2, 3, 4, 5, 7, 8], [2, 3, 4, 5, 7, 8, 44], [2, 3, 4, 5, 7, 8], [2, 3, 4, 5, 7, 8], [2, 3, 4, 5, 6, 7], [4]]
def tab52 : List (List Nat) := [[2, 3, 4], [2, 3, 4, 5], [2, 3, 4, 5, 6], [2, 3, 4, 5, 6, 22], [2, 3, 4, 5, 6], [2, 3, 4, 5, 6, 7], [2, 3, 4, 5, 6, 7, 8], [2, 3, 4, 5, 6, 7, 8, 29], [2, 3, 4, 5, 6, 7, 8], [2, 3, 4, 5, 6, 8, 9], [2, 3, 4, 5, 6, 8, 9], [2, 3, 4, 5, 6, 7, 8], [2, 3, 4, 5, 6], [4]]
def tab53 : List (List Nat) := [[0, 2], [0, 2, 3], [0, 2, 3, 5], [0, 2, 3], [0, 2, 3], [2]]
def tab54 : List (List Nat) := [[0, 3], [4]]
def tab55 : List (List Nat) := [[0], [2]]
def tab56 : List (List Nat) := [[0, 2], [0, 2, 6], [2, 3], [2, 3]]
def tab57 : List (List Nat) := [[0, 1], [0, 1, 13], [0, 1], [0, 1, 5], [0, 1, 5, 6], [1, 5, 6, 20, 21, 22], [1, 5, 6, 20, 21, 22, 23], [1, 5, 6, 7, 8, 20, 21, 22], [1, 5, 6, 7, 20, 21, 22], [1, 5, 6, 7, 20, 21, 22, 33], [1, 5, 6, 20, 21, 22], [1, 5, 6, 20, 21, 22], [1, 5, 6, 20, 21, 22], [1, 5, 6, 20, 21, 22], [4]]
def tab58 : List (List Nat) := [[0, 1], [0, 1, 5], [1, 5, 17, 18, 19], [1, 5, 17, 18, 19, 20], [1, 5, 6, 7, 17, 18, 19], [1, 5, 6, 7, 8, 17, 18, 19], [1, 5, 6, 7, 8, 17, 18, 19, 24, 25, 26], [1, 5, 6, 7, 8, 17, 18, 19, 24, 25, 26, 27], [1, 5, 6, 7, 8, 9, 10, 17, 18, 19, 24, 25, 26], [1, 5, 6, 7, 8, 9, 17, 18, 19, 24, 25, 26], [1, 5, 6, 7, 8, 17, 18, 19, 24, 25, 26], [1, 5, 6, 7, 8, 17, 18, 19, 24, 25, 26], [1, 5, 6, 7, 8, 17, 18, 19, 24, 25, 26], [1, 5, 17, 18, 19], [1, 5, 17, 18, 19], [4]]
def tab59 : List (List Nat) := [[0], [0, 3], [0, 3, 5], [0, 3], [0, 3], [2]]
def tab60 : List (List Nat) := [[0, 1], [0, 1, 10], [4], [0, 1, 5], [0, 1, 5, 14], [0, 1, 5], [0, 1, 5, 25], [4], [4]]
def tab61 : List (List Nat) := [[0, 1], [0, 1, 5], [0, 1, 5, 9], [0, 1, 5], [0, 1, 5], [0, 1, 5], [4]]
def tab62 : List (List Nat) := [[0, 1], [0, 1, 5], [0, 1, 5, 9], [0, 1, 5], [0, 1, 5, 17], [4], [0, 1, 5], [4]]
def tab66 : List (List Nat) := [[0], [0, 8], [2], [0, 3], [0, 3, 12], [2], [0, 3, 4], [0, 3, 4, 5], [0, 3, 4, 5, 21], [0, 3, 4, 5], [0, 3, 4, 5], [0, 3, 4, 5], [4], [2]]
def tab69 : List (List Nat) := [[0], [2]]
def tab70 : List (List Nat) := [[0], [0, 11], [2, 3], [0, 4, 5], [0, 4, 5, 31], [2, 3], [4, 5, 34, 35, 36], [4, 5, 34, 35, 36, 37], [4, 5, 7, 34, 35, 36], [4, 5, 7, 34, 35, 36, 42], [2, 3], [4, 5, 34, 35, 36], [4, 5, 34, 35, 36], [4, 5, 58], [2, 3], [2, 3]]
def tab71 : List (List Nat) := [[0, 1], [0, 1, 7, 8], [0, 1, 7, 8, 9], [0, 1, 5, 7, 8], [0, 1, 5, 7, 8, 16], [4], [0, 1, 7, 8], [4]]
def tab72 : List (List Nat) := [[0, 1], [0, 1, 6], [0, 1, 6, 18], [4, 5], [0, 1, 6], [4, 5], [0, 1, 6, 20], [0, 1, 6, 7], [0, 1, 7, 8], [0, 1, 7, 8, 9], [0, 1, 6, 29], [0, 1, 6, 7], [0, 1, 7, 8], [0, 1, 7, 8, 9], [0, 1, 6, 38], [0, 1, 6, 7], [0, 1, 7, 8], [0, 1, 7, 8, 9], [0, 1, 7, 8, 9, 10], [0, 1, 7, 8, 9, 10, 49], [0, 1, 7, 8, 9, 10], [0, 1, 7, 8, 9, 10, 11], [0, 1, 7, 8, 9, 10, 11, 58], [4, 5], [0, 1, 7, 8, 9, 10], [7, 8, 70], [4, 5], [4, 5]]
def tab73 : List (List Nat) := [[0, 1], [4]]
def tab74 : List (List Nat) := [[0, 1], [3]]
def tab75 : List (List Nat) := [[0], [0, 4], [2], [2]]
def tab76 : List (List Nat) := [[0], [0, 14], [0], [2]]
def tab77 : List (List Nat) := [[0], [2]]
def tab78 : List (List Nat) := [[0], [0, 3], [2], [0, 6], [2], [9], [2], [2]]
def tab81 : List (List Nat) := [[0], [0, 4], [2, 3], [0, 9], [2, 3], [0, 14], [2, 3], [2, 3]]
def tab82 : List (List Nat) := [[0, 1], [0, 1, 22], [4], [4]]
def tab83 : List (List Nat) := [[0, 1], [0, 1, 7, 8], [0, 1, 7, 8, 9], [0, 1, 5, 7, 8], [0, 1, 5, 7, 8, 16], [4], [0, 1, 7, 8], [4]]
def tabs : Nat → List (List Nat)
  | 3 => tab3
  | 5 => tab5
  | 6 => tab6
  | 7 => tab7
  | 8 => tab8
  | 9 => tab9
  | 10 => tab10
  | 11 => tab11
  | 12 => tab12
  | 14 => tab14
  | 16 => tab16
  | 17 => tab17
  | 18 => tab18
  | 19 => tab19
  | 22 => tab22
  | 23 => tab23
  | 24 => tab24
  | 25 => tab25
  | 26 => tab26
  | 27 => tab27
  | 28 => tab28
  | 29 => tab29
  | 30 => tab30
  | 31 => tab31
  | 32 => tab32
  | 33 => tab33
  | 36 => tab36
  | 40 => tab40
  | 42 => tab42
  | 43 => tab43
  | 44 => tab44
  | 46 => tab46
  | 47 => tab47
  | 48 => tab48
  | 49 => tab49
  | 50 => tab50
  | 51 => tab51
  | 52 => tab52
  | 53 => tab53
  | 54 => tab54
  | 55 => tab55
  | 56 => tab56
  | 57 => tab57
  | 58 => tab58
  | 59 => tab59
  | 60 => tab60
  | 61 => tab61
  | 62 => tab62
  | 66 => tab66
  | 69 => tab69
  | 70 => tab70
  | 71 => tab71
  | 72 => tab72
  | 73 => tab73
  | 74 => tab74
  | 75 => tab75
  | 76 => tab76
  | 77 => tab77
  | 78 => tab78
  | 81 => tab81
  | 82 => tab82
  | 83 => tab83
  | _ => []
def impL : List Nat := [10, 11, 32, 61]
def aliL : List Nat := [76]
def gcL : List Nat := [5, 6, 7, 8, 9, 12, 14, 16, 17, 18, 19, 22, 23, 24, 25, 26, 27, 28, 29, 30, 31, 33, 36, 40, 42, 43, 44, 46, 47, 48, 49, 50, 51, 52, 53, 54, 55, 56, 57, 58, 59, 60, 62, 66, 69, 70, 71, 72, 73, 74, 75, 77, 78, 81, 82, 83]
def ownL : List Nat := [3, 5, 6, 7, 8, 9, 10, 11, 12, 14, 16, 17, 18, 19, 22, 23, 24, 25, 26, 27, 28, 29, 30, 31, 32, 33, 36, 40, 42, 43, 44, 46, 47, 48, 49, 50, 51, 52, 53, 54, 55, 56, 57, 58, 59, 60, 61, 62, 66, 69, 70, 71, 72, 73, 74, 75, 76, 77, 78, 81, 82, 83]
def cf : Cfg where
  pure := fun f => !impL.contains f
  keep := fun f r => (tabs f).getD r []
  pack := fun f => if f = 75 then .pack [.i64] else if ownL.contains f then .whole else .no
  clone := fun f => match f with
    | 75 => some .i64
    | _ => none
  glob := fun _ => none
  rounds := 4294967296
  wary := fun f r => match f with
    | _ => false
def nil6 (t : Nat) : Option NK := if t = 2 then some (.i .u8) else none
def nil14 (t : Nat) : Option NK := if t = 2 then some (.i .u8) else if t = 3 then some (.i .u8) else none
def nil16 (t : Nat) : Option NK := if t = 2 then some (.i .i64) else none
def nil22 (t : Nat) : Option NK := if t = 2 then some (.i .u8) else if t = 4 then some (.i .u8) else none
def nil27 (t : Nat) : Option NK := if t = 2 then some (.i .u8) else none
def nil30 (t : Nat) : Option NK := if t = 2 then some (.i .i64) else if t = 3 then some (.i .i64) else none
def nil36 (t : Nat) : Option NK := if t = 2 then some (.i .u8) else none
def nil40 (t : Nat) : Option NK := if t = 2 then some (.i .u8) else none
def nil42 (t : Nat) : Option NK := if t = 2 then some (.i .i64) else if t = 4 then some (.i .i64) else none
def nil46 (t : Nat) : Option NK := if t = 2 then some (.i .i64) else if t = 3 then some (.i .i64) else none
def nil51 (t : Nat) : Option NK := if t = 5 then some (.i .i64) else none
def nil53 (t : Nat) : Option NK := if t = 3 then some (.i .i64) else none
def nil57 (t : Nat) : Option NK := if t = 4 then some (.i .i64) else none
def nil58 (t : Nat) : Option NK := if t = 4 then some (.i .i64) else none
def nil59 (t : Nat) : Option NK := if t = 2 then some (.i .i64) else if t = 3 then some (.i .i64) else none
def nil66 (t : Nat) : Option NK := if t = 2 then some (.i .u8) else none
def nil75 (t : Nat) : Option NK := if t = 2 then some (.i .i64) else none
def nil76 (t : Nat) : Option NK := if t = 2 then some (.i .i64) else none
def kn : Kn where
  cf := cf
  out := fun f => match f with
    | 3 => .frz []
    | 5 => .frz [[none, some (.i .i64)]]
    | 6 => .own [[some (.i .u8)]]
    | 7 => .own [[none, some (.i .i64)]]
    | 8 => .frz []
    | 9 => .frz []
    | 10 => .inl
    | 11 => .inl
    | 12 => .frz []
    | 14 => .own [[some (.i .u8)]]
    | 16 => .own [[some (.i .i64)]]
    | 17 => .frz []
    | 18 => .frz []
    | 19 => .frz []
    | 22 => .frz [[some (.i .u8)]]
    | 23 => .frz []
    | 24 => .frz [[none, some (.i .i64)]]
    | 25 => .frz [[none, some (.i .i64)]]
    | 26 => .frz [[some (.i .i64)]]
    | 27 => .frz [[some (.i .u8)]]
    | 28 => .frz []
    | 29 => .own [[none, some (.i .i64)]]
    | 30 => .own [[some (.i .i64)]]
    | 31 => .frz []
    | 32 => .inl
    | 33 => .frz []
    | 36 => .own [[some (.i .u8)]]
    | 40 => .frz [[some (.i .u8)]]
    | 42 => .own [[some (.i .i64)]]
    | 43 => .frz []
    | 44 => .frz []
    | 46 => .frz [[some (.i .i64)]]
    | 47 => .frz []
    | 48 => .frz []
    | 49 => .frz []
    | 50 => .own [[some (.i .i64)]]
    | 51 => .frz [[some (.i .i64)]]
    | 52 => .frz [[some (.i .i64)]]
    | 53 => .own [[some (.i .i64)]]
    | 54 => .frz []
    | 55 => .frz []
    | 56 => .own [[some (.i .i64)]]
    | 57 => .own [[some (.i .i64)]]
    | 58 => .own [[some (.i .i64)]]
    | 59 => .own [[some (.i .i64)]]
    | 60 => .frz []
    | 61 => .inl
    | 62 => .frz []
    | 66 => .own [[some (.i .u8)]]
    | 69 => .frz []
    | 70 => .frz []
    | 71 => .frz []
    | 72 => .frz []
    | 73 => .frz []
    | 74 => .frz []
    | 75 => .own [[some (.i .i64)]]
    | 76 => .inl
    | 77 => .frz []
    | 78 => .frz []
    | 81 => .frz []
    | 82 => .frz []
    | 83 => .frz []
    | _ => .inl
  args := fun f => match f with
    | 3 => [[some (.i .u8)]]
    | 5 => [[some (.i .u8)]]
    | 6 => [[some (.i .u8)]]
    | 7 => [[some (.i .u8)]]
    | 8 => [[none, some (.i .i64)], [none, some (.i .i64)]]
    | 9 => [[some (.i .u8)], [some (.i .u8)]]
    | 12 => [[none, some (.i .i64)]]
    | 14 => [[some (.i .u8)]]
    | 16 => [[some (.i .u8)]]
    | 22 => [[some (.i .u8)]]
    | 23 => [[some (.i .u8)]]
    | 24 => [[none, some (.i .i64)]]
    | 25 => [[], [some (.i .i64)]]
    | 26 => [[some (.i .u8)]]
    | 27 => [[some (.i .u8)]]
    | 28 => [[some (.i .u8)]]
    | 29 => [[], [some (.i .i64)]]
    | 30 => [[some (.i .u8)]]
    | 31 => [[some (.i .i64)], [some (.i .i64)]]
    | 33 => [[some (.i .i64)]]
    | 42 => [[some (.i .u8)]]
    | 44 => [[some (.i .i64)]]
    | 46 => [[some (.i .u8)]]
    | 50 => [[some (.i .i64)]]
    | 51 => [[some (.i .i64)], [some (.i .i64)]]
    | 52 => [[some (.i .i64)], [some (.i .i64)]]
    | 54 => [[some (.i .u8)]]
    | 56 => [[some (.i .i64)]]
    | 57 => [[some (.i .i64)], [some (.i .i64)]]
    | 58 => [[some (.i .i64)], [some (.i .i64)]]
    | 60 => [[some (.i .i64)], [some (.i .i64)]]
    | 62 => [[some (.i .i64)]]
    | 70 => [[some (.i .u8)]]
    | 71 => [[some (.i .i64)]]
    | 72 => [[some (.i .u8)]]
    | 73 => [[some (.i .u8)]]
    | 75 => [[some (.i .i64)]]
    | 76 => [[some (.i .i64)]]
    | 82 => [[some (.i .u8)]]
    | 83 => [[some (.i .u8)]]
    | _ => []
  nils := fun f => match f with
    | 6 => nil6
    | 14 => nil14
    | 16 => nil16
    | 22 => nil22
    | 27 => nil27
    | 30 => nil30
    | 36 => nil36
    | 40 => nil40
    | 42 => nil42
    | 46 => nil46
    | 51 => nil51
    | 53 => nil53
    | 57 => nil57
    | 58 => nil58
    | 59 => nil59
    | 66 => nil66
    | 75 => nil75
    | 76 => nil76
    | _ => fun _ => none
  gc := fun f => gcL.contains f
  ali := fun f => aliL.contains f
  glob := fun _ => none
@[simp] theorem k_cf : kn.cf = cf := rfl
/-! 3: laws.FnExactWholeRead -/
@[simp] theorem c_keep3 (r : Nat) : cf.keep 3 r = tab3.getD r [] := rfl
@[simp] theorem c_pure3 : cf.pure 3 = true := rfl
@[simp] theorem c_pack3 : cf.pack 3 = .whole := rfl
@[simp] theorem c_wary3 (r : Nat) : cf.wary 3 r = false := rfl
@[simp] theorem c_clone3 : cf.clone 3 = none := rfl
@[simp] theorem k_out3 : kn.out 3 = .frz [] := rfl
@[simp] theorem k_args3 : kn.args 3 = [[some (.i .u8)]] := rfl
@[simp] theorem k_nils3 : kn.nils 3 = fun _ => none := rfl
@[simp] theorem k_gc3 : kn.gc 3 = false := rfl
@[simp] theorem k_ali3 : kn.ali 3 = false := rfl
/-! 5: spec.WholeRead -/
@[simp] theorem c_keep5 (r : Nat) : cf.keep 5 r = tab5.getD r [] := rfl
@[simp] theorem c_pure5 : cf.pure 5 = true := rfl
@[simp] theorem c_pack5 : cf.pack 5 = .whole := rfl
@[simp] theorem c_wary5 (r : Nat) : cf.wary 5 r = false := rfl
@[simp] theorem c_clone5 : cf.clone 5 = none := rfl
@[simp] theorem k_out5 : kn.out 5 = .frz [[none, some (.i .i64)]] := rfl
@[simp] theorem k_args5 : kn.args 5 = [[some (.i .u8)]] := rfl
@[simp] theorem k_nils5 : kn.nils 5 = fun _ => none := rfl
@[simp] theorem k_gc5 : kn.gc 5 = true := rfl
@[simp] theorem k_ali5 : kn.ali 5 = false := rfl
/-! 6: laws.toByteS -/
@[simp] theorem c_keep6 (r : Nat) : cf.keep 6 r = tab6.getD r [] := rfl
@[simp] theorem c_pure6 : cf.pure 6 = true := rfl
@[simp] theorem c_pack6 : cf.pack 6 = .whole := rfl
@[simp] theorem c_wary6 (r : Nat) : cf.wary 6 r = false := rfl
@[simp] theorem c_clone6 : cf.clone 6 = none := rfl
@[simp] theorem k_out6 : kn.out 6 = .own [[some (.i .u8)]] := rfl
@[simp] theorem k_args6 : kn.args 6 = [[some (.i .u8)]] := rfl
@[simp] theorem k_nils6 : kn.nils 6 = nil6 := rfl
@[simp] theorem k_gc6 : kn.gc 6 = true := rfl
@[simp] theorem k_ali6 : kn.ali 6 = false := rfl
/-! 7: impl.WholeRead -/
@[simp] theorem c_keep7 (r : Nat) : cf.keep 7 r = tab7.getD r [] := rfl
@[simp] theorem c_pure7 : cf.pure 7 = true := rfl
@[simp] theorem c_pack7 : cf.pack 7 = .whole := rfl
@[simp] theorem c_wary7 (r : Nat) : cf.wary 7 r = false := rfl
@[simp] theorem c_clone7 : cf.clone 7 = none := rfl
@[simp] theorem k_out7 : kn.out 7 = .own [[none, some (.i .i64)]] := rfl
@[simp] theorem k_args7 : kn.args 7 = [[some (.i .u8)]] := rfl
@[simp] theorem k_nils7 : kn.nils 7 = fun _ => none := rfl
@[simp] theorem k_gc7 : kn.gc 7 = true := rfl
@[simp] theorem k_ali7 : kn.ali 7 = false := rfl
/-! 8: laws.eqWhole -/
@[simp] theorem c_keep8 (r : Nat) : cf.keep 8 r = tab8.getD r [] := rfl
@[simp] theorem c_pure8 : cf.pure 8 = true := rfl
@[simp] theorem c_pack8 : cf.pack 8 = .whole := rfl
@[simp] theorem c_wary8 (r : Nat) : cf.wary 8 r = false := rfl
@[simp] theorem c_clone8 : cf.clone 8 = none := rfl
@[simp] theorem k_out8 : kn.out 8 = .frz [] := rfl
@[simp] theorem k_args8 : kn.args 8 = [[none, some (.i .i64)], [none, some (.i .i64)]] := rfl
@[simp] theorem k_nils8 : kn.nils 8 = fun _ => none := rfl
@[simp] theorem k_gc8 : kn.gc 8 = true := rfl
@[simp] theorem k_ali8 : kn.ali 8 = false := rfl
/-! 9: laws.eqByteS -/
@[simp] theorem c_keep9 (r : Nat) : cf.keep 9 r = tab9.getD r [] := rfl
@[simp] theorem c_pure9 : cf.pure 9 = true := rfl
@[simp] theorem c_pack9 : cf.pack 9 = .whole := rfl
@[simp] theorem c_wary9 (r : Nat) : cf.wary 9 r = false := rfl
@[simp] theorem c_clone9 : cf.clone 9 = none := rfl
@[simp] theorem k_out9 : kn.out 9 = .frz [] := rfl
@[simp] theorem k_args9 : kn.args 9 = [[some (.i .u8)], [some (.i .u8)]] := rfl
@[simp] theorem k_nils9 : kn.nils 9 = fun _ => none := rfl
@[simp] theorem k_gc9 : kn.gc 9 = true := rfl
@[simp] theorem k_ali9 : kn.ali 9 = false := rfl
/-! 10: laws.markByteS -/
@[simp] theorem c_keep10 (r : Nat) : cf.keep 10 r = tab10.getD r [] := rfl
@[simp] theorem c_pure10 : cf.pure 10 = false := rfl
@[simp] theorem c_pack10 : cf.pack 10 = .whole := rfl
@[simp] theorem c_wary10 (r : Nat) : cf.wary 10 r = false := rfl
@[simp] theorem c_clone10 : cf.clone 10 = none := rfl
@[simp] theorem k_out10 : kn.out 10 = .inl := rfl
@[simp] theorem k_args10 : kn.args 10 = [] := rfl
@[simp] theorem k_nils10 : kn.nils 10 = fun _ => none := rfl
@[simp] theorem k_gc10 : kn.gc 10 = false := rfl
@[simp] theorem k_ali10 : kn.ali 10 = false := rfl
/-! 11: laws.markWhole -/
@[simp] theorem c_keep11 (r : Nat) : cf.keep 11 r = tab11.getD r [] := rfl
@[simp] theorem c_pure11 : cf.pure 11 = false := rfl
@[simp] theorem c_pack11 : cf.pack 11 = .whole := rfl
@[simp] theorem c_wary11 (r : Nat) : cf.wary 11 r = false := rfl
@[simp] theorem c_clone11 : cf.clone 11 = none := rfl
@[simp] theorem k_out11 : kn.out 11 = .inl := rfl
@[simp] theorem k_args11 : kn.args 11 = [] := rfl
@[simp] theorem k_nils11 : kn.nils 11 = fun _ => none := rfl
@[simp] theorem k_gc11 : kn.gc 11 = false := rfl
@[simp] theorem k_ali11 : kn.ali 11 = false := rfl
/-! 12: laws.heldWhole -/
@[simp] theorem c_keep12 (r : Nat) : cf.keep 12 r = tab12.getD r [] := rfl
@[simp] theorem c_pure12 : cf.pure 12 = true := rfl
@[simp] theorem c_pack12 : cf.pack 12 = .whole := rfl
@[simp] theorem c_wary12 (r : Nat) : cf.wary 12 r = false := rfl
@[simp] theorem c_clone12 : cf.clone 12 = none := rfl
@[simp] theorem k_out12 : kn.out 12 = .frz [] := rfl
@[simp] theorem k_args12 : kn.args 12 = [[none, some (.i .i64)]] := rfl
@[simp] theorem k_nils12 : kn.nils 12 = fun _ => none := rfl
@[simp] theorem k_gc12 : kn.gc 12 = true := rfl
@[simp] theorem k_ali12 : kn.ali 12 = false := rfl
/-! 14: impl.Plain -/
@[simp] theorem c_keep14 (r : Nat) : cf.keep 14 r = tab14.getD r [] := rfl
@[simp] theorem c_pure14 : cf.pure 14 = true := rfl
@[simp] theorem c_pack14 : cf.pack 14 = .whole := rfl
@[simp] theorem c_wary14 (r : Nat) : cf.wary 14 r = false := rfl
@[simp] theorem c_clone14 : cf.clone 14 = none := rfl
@[simp] theorem k_out14 : kn.out 14 = .own [[some (.i .u8)]] := rfl
@[simp] theorem k_args14 : kn.args 14 = [[some (.i .u8)]] := rfl
@[simp] theorem k_nils14 : kn.nils 14 = nil14 := rfl
@[simp] theorem k_gc14 : kn.gc 14 = true := rfl
@[simp] theorem k_ali14 : kn.ali 14 = false := rfl
/-! 16: impl.Runes -/
@[simp] theorem c_keep16 (r : Nat) : cf.keep 16 r = tab16.getD r [] := rfl
@[simp] theorem c_pure16 : cf.pure 16 = true := rfl
@[simp] theorem c_pack16 : cf.pack 16 = .whole := rfl
@[simp] theorem c_wary16 (r : Nat) : cf.wary 16 r = false := rfl
@[simp] theorem c_clone16 : cf.clone 16 = none := rfl
@[simp] theorem k_out16 : kn.out 16 = .own [[some (.i .i64)]] := rfl
@[simp] theorem k_args16 : kn.args 16 = [[some (.i .u8)]] := rfl
@[simp] theorem k_nils16 : kn.nils 16 = nil16 := rfl
@[simp] theorem k_gc16 : kn.gc 16 = true := rfl
@[simp] theorem k_ali16 : kn.ali 16 = false := rfl
/-! 17: impl.DigitOf -/
@[simp] theorem c_keep17 (r : Nat) : cf.keep 17 r = tab17.getD r [] := rfl
@[simp] theorem c_pure17 : cf.pure 17 = true := rfl
@[simp] theorem c_pack17 : cf.pack 17 = .whole := rfl
@[simp] theorem c_wary17 (r : Nat) : cf.wary 17 r = false := rfl
@[simp] theorem c_clone17 : cf.clone 17 = none := rfl
@[simp] theorem k_out17 : kn.out 17 = .frz [] := rfl
@[simp] theorem k_args17 : kn.args 17 = [] := rfl
@[simp] theorem k_nils17 : kn.nils 17 = fun _ => none := rfl
@[simp] theorem k_gc17 : kn.gc 17 = true := rfl
@[simp] theorem k_ali17 : kn.ali 17 = false := rfl
/-! 18: impl.IsBlank -/
@[simp] theorem c_keep18 (r : Nat) : cf.keep 18 r = tab18.getD r [] := rfl
@[simp] theorem c_pure18 : cf.pure 18 = true := rfl
@[simp] theorem c_pack18 : cf.pack 18 = .whole := rfl
@[simp] theorem c_wary18 (r : Nat) : cf.wary 18 r = false := rfl
@[simp] theorem c_clone18 : cf.clone 18 = none := rfl
@[simp] theorem k_out18 : kn.out 18 = .frz [] := rfl
@[simp] theorem k_args18 : kn.args 18 = [] := rfl
@[simp] theorem k_nils18 : kn.nils 18 = fun _ => none := rfl
@[simp] theorem k_gc18 : kn.gc 18 = true := rfl
@[simp] theorem k_ali18 : kn.ali 18 = false := rfl
/-! 19: impl.SignOf -/
@[simp] theorem c_keep19 (r : Nat) : cf.keep 19 r = tab19.getD r [] := rfl
@[simp] theorem c_pure19 : cf.pure 19 = true := rfl
@[simp] theorem c_pack19 : cf.pack 19 = .whole := rfl
@[simp] theorem c_wary19 (r : Nat) : cf.wary 19 r = false := rfl
@[simp] theorem c_clone19 : cf.clone 19 = none := rfl
@[simp] theorem k_out19 : kn.out 19 = .frz [] := rfl
@[simp] theorem k_args19 : kn.args 19 = [] := rfl
@[simp] theorem k_nils19 : kn.nils 19 = fun _ => none := rfl
@[simp] theorem k_gc19 : kn.gc 19 = true := rfl
@[simp] theorem k_ali19 : kn.ali 19 = false := rfl
/-! 22: spec.Plain -/
@[simp] theorem c_keep22 (r : Nat) : cf.keep 22 r = tab22.getD r [] := rfl
@[simp] theorem c_pure22 : cf.pure 22 = true := rfl
@[simp] theorem c_pack22 : cf.pack 22 = .whole := rfl
@[simp] theorem c_wary22 (r : Nat) : cf.wary 22 r = false := rfl
@[simp] theorem c_clone22 : cf.clone 22 = none := rfl
@[simp] theorem k_out22 : kn.out 22 = .frz [[some (.i .u8)]] := rfl
@[simp] theorem k_args22 : kn.args 22 = [[some (.i .u8)]] := rfl
@[simp] theorem k_nils22 : kn.nils 22 = nil22 := rfl
@[simp] theorem k_gc22 : kn.gc 22 = true := rfl
@[simp] theorem k_ali22 : kn.ali 22 = false := rfl
/-! 23: spec.l2isDigits -/
@[simp] theorem c_keep23 (r : Nat) : cf.keep 23 r = tab23.getD r [] := rfl
@[simp] theorem c_pure23 : cf.pure 23 = true := rfl
@[simp] theorem c_pack23 : cf.pack 23 = .whole := rfl
@[simp] theorem c_wary23 (r : Nat) : cf.wary 23 r = false := rfl
@[simp] theorem c_clone23 : cf.clone 23 = none := rfl
@[simp] theorem k_out23 : kn.out 23 = .frz [] := rfl
@[simp] theorem k_args23 : kn.args 23 = [[some (.i .u8)]] := rfl
@[simp] theorem k_nils23 : kn.nils 23 = fun _ => none := rfl
@[simp] theorem k_gc23 : kn.gc 23 = true := rfl
@[simp] theorem k_ali23 : kn.ali 23 = false := rfl
/-! 24: spec.l3fits -/
@[simp] theorem c_keep24 (r : Nat) : cf.keep 24 r = tab24.getD r [] := rfl
@[simp] theorem c_pure24 : cf.pure 24 = true := rfl
@[simp] theorem c_pack24 : cf.pack 24 = .whole := rfl
@[simp] theorem c_wary24 (r : Nat) : cf.wary 24 r = false := rfl
@[simp] theorem c_clone24 : cf.clone 24 = none := rfl
@[simp] theorem k_out24 : kn.out 24 = .frz [[none, some (.i .i64)]] := rfl
@[simp] theorem k_args24 : kn.args 24 = [[none, some (.i .i64)]] := rfl
@[simp] theorem k_nils24 : kn.nils 24 = fun _ => none := rfl
@[simp] theorem k_gc24 : kn.gc 24 = true := rfl
@[simp] theorem k_ali24 : kn.ali 24 = false := rfl
/-! 25: spec.l3make -/
@[simp] theorem c_keep25 (r : Nat) : cf.keep 25 r = tab25.getD r [] := rfl
@[simp] theorem c_pure25 : cf.pure 25 = true := rfl
@[simp] theorem c_pack25 : cf.pack 25 = .whole := rfl
@[simp] theorem c_wary25 (r : Nat) : cf.wary 25 r = false := rfl
@[simp] theorem c_clone25 : cf.clone 25 = none := rfl
@[simp] theorem k_out25 : kn.out 25 = .frz [[none, some (.i .i64)]] := rfl
@[simp] theorem k_args25 : kn.args 25 = [[], [some (.i .i64)]] := rfl
@[simp] theorem k_nils25 : kn.nils 25 = fun _ => none := rfl
@[simp] theorem k_gc25 : kn.gc 25 = true := rfl
@[simp] theorem k_ali25 : kn.ali 25 = false := rfl
/-! 26: spec.l2digits -/
@[simp] theorem c_keep26 (r : Nat) : cf.keep 26 r = tab26.getD r [] := rfl
@[simp] theorem c_pure26 : cf.pure 26 = true := rfl
@[simp] theorem c_pack26 : cf.pack 26 = .whole := rfl
@[simp] theorem c_wary26 (r : Nat) : cf.wary 26 r = false := rfl
@[simp] theorem c_clone26 : cf.clone 26 = none := rfl
@[simp] theorem k_out26 : kn.out 26 = .frz [[some (.i .i64)]] := rfl
@[simp] theorem k_args26 : kn.args 26 = [[some (.i .u8)]] := rfl
@[simp] theorem k_nils26 : kn.nils 26 = fun _ => none := rfl
@[simp] theorem k_gc26 : kn.gc 26 = true := rfl
@[simp] theorem k_ali26 : kn.ali 26 = false := rfl
/-! 27: impl.cutSign -/
@[simp] theorem c_keep27 (r : Nat) : cf.keep 27 r = tab27.getD r [] := rfl
@[simp] theorem c_pure27 : cf.pure 27 = true := rfl
@[simp] theorem c_pack27 : cf.pack 27 = .whole := rfl
@[simp] theorem c_wary27 (r : Nat) : cf.wary 27 r = false := rfl
@[simp] theorem c_clone27 : cf.clone 27 = none := rfl
@[simp] theorem k_out27 : kn.out 27 = .frz [[some (.i .u8)]] := rfl
@[simp] theorem k_args27 : kn.args 27 = [[some (.i .u8)]] := rfl
@[simp] theorem k_nils27 : kn.nils 27 = nil27 := rfl
@[simp] theorem k_gc27 : kn.gc 27 = true := rfl
@[simp] theorem k_ali27 : kn.ali 27 = false := rfl
/-! 28: impl.areDigits -/
@[simp] theorem c_keep28 (r : Nat) : cf.keep 28 r = tab28.getD r [] := rfl
@[simp] theorem c_pure28 : cf.pure 28 = true := rfl
@[simp] theorem c_pack28 : cf.pack 28 = .whole := rfl
@[simp] theorem c_wary28 (r : Nat) : cf.wary 28 r = false := rfl
@[simp] theorem c_clone28 : cf.clone 28 = none := rfl
@[simp] theorem k_out28 : kn.out 28 = .frz [] := rfl
@[simp] theorem k_args28 : kn.args 28 = [[some (.i .u8)]] := rfl
@[simp] theorem k_nils28 : kn.nils 28 = fun _ => none := rfl
@[simp] theorem k_gc28 : kn.gc 28 = true := rfl
@[simp] theorem k_ali28 : kn.ali 28 = false := rfl
/-! 29: impl.wholeOf -/
@[simp] theorem c_keep29 (r : Nat) : cf.keep 29 r = tab29.getD r [] := rfl
@[simp] theorem c_pure29 : cf.pure 29 = true := rfl
@[simp] theorem c_pack29 : cf.pack 29 = .whole := rfl
@[simp] theorem c_wary29 (r : Nat) : cf.wary 29 r = false := rfl
@[simp] theorem c_clone29 : cf.clone 29 = none := rfl
@[simp] theorem k_out29 : kn.out 29 = .own [[none, some (.i .i64)]] := rfl
@[simp] theorem k_args29 : kn.args 29 = [[], [some (.i .i64)]] := rfl
@[simp] theorem k_nils29 : kn.nils 29 = fun _ => none := rfl
@[simp] theorem k_gc29 : kn.gc 29 = true := rfl
@[simp] theorem k_ali29 : kn.ali 29 = false := rfl
/-! 30: impl.fromDigits -/
@[simp] theorem c_keep30 (r : Nat) : cf.keep 30 r = tab30.getD r [] := rfl
@[simp] theorem c_pure30 : cf.pure 30 = true := rfl
@[simp] theorem c_pack30 : cf.pack 30 = .whole := rfl
@[simp] theorem c_wary30 (r : Nat) : cf.wary 30 r = false := rfl
@[simp] theorem c_clone30 : cf.clone 30 = none := rfl
@[simp] theorem k_out30 : kn.out 30 = .own [[some (.i .i64)]] := rfl
@[simp] theorem k_args30 : kn.args 30 = [[some (.i .u8)]] := rfl
@[simp] theorem k_nils30 : kn.nils 30 = nil30 := rfl
@[simp] theorem k_gc30 : kn.gc 30 = true := rfl
@[simp] theorem k_ali30 : kn.ali 30 = false := rfl
/-! 31: laws.eqNat -/
@[simp] theorem c_keep31 (r : Nat) : cf.keep 31 r = tab31.getD r [] := rfl
@[simp] theorem c_pure31 : cf.pure 31 = true := rfl
@[simp] theorem c_pack31 : cf.pack 31 = .whole := rfl
@[simp] theorem c_wary31 (r : Nat) : cf.wary 31 r = false := rfl
@[simp] theorem c_clone31 : cf.clone 31 = none := rfl
@[simp] theorem k_out31 : kn.out 31 = .frz [] := rfl
@[simp] theorem k_args31 : kn.args 31 = [[some (.i .i64)], [some (.i .i64)]] := rfl
@[simp] theorem k_nils31 : kn.nils 31 = fun _ => none := rfl
@[simp] theorem k_gc31 : kn.gc 31 = true := rfl
@[simp] theorem k_ali31 : kn.ali 31 = false := rfl
/-! 32: laws.markNat -/
@[simp] theorem c_keep32 (r : Nat) : cf.keep 32 r = tab32.getD r [] := rfl
@[simp] theorem c_pure32 : cf.pure 32 = false := rfl
@[simp] theorem c_pack32 : cf.pack 32 = .whole := rfl
@[simp] theorem c_wary32 (r : Nat) : cf.wary 32 r = false := rfl
@[simp] theorem c_clone32 : cf.clone 32 = none := rfl
@[simp] theorem k_out32 : kn.out 32 = .inl := rfl
@[simp] theorem k_args32 : kn.args 32 = [] := rfl
@[simp] theorem k_nils32 : kn.nils 32 = fun _ => none := rfl
@[simp] theorem k_gc32 : kn.gc 32 = false := rfl
@[simp] theorem k_ali32 : kn.ali 32 = false := rfl
/-! 33: laws.heldNat -/
@[simp] theorem c_keep33 (r : Nat) : cf.keep 33 r = tab33.getD r [] := rfl
@[simp] theorem c_pure33 : cf.pure 33 = true := rfl
@[simp] theorem c_pack33 : cf.pack 33 = .whole := rfl
@[simp] theorem c_wary33 (r : Nat) : cf.wary 33 r = false := rfl
@[simp] theorem c_clone33 : cf.clone 33 = none := rfl
@[simp] theorem k_out33 : kn.out 33 = .frz [] := rfl
@[simp] theorem k_args33 : kn.args 33 = [[some (.i .i64)]] := rfl
@[simp] theorem k_nils33 : kn.nils 33 = fun _ => none := rfl
@[simp] theorem k_gc33 : kn.gc 33 = true := rfl
@[simp] theorem k_ali33 : kn.ali 33 = false := rfl
/-! 36: impl.plainOf -/
@[simp] theorem c_keep36 (r : Nat) : cf.keep 36 r = tab36.getD r [] := rfl
@[simp] theorem c_pure36 : cf.pure 36 = true := rfl
@[simp] theorem c_pack36 : cf.pack 36 = .whole := rfl
@[simp] theorem c_wary36 (r : Nat) : cf.wary 36 r = false := rfl
@[simp] theorem c_clone36 : cf.clone 36 = none := rfl
@[simp] theorem k_out36 : kn.out 36 = .own [[some (.i .u8)]] := rfl
@[simp] theorem k_args36 : kn.args 36 = [] := rfl
@[simp] theorem k_nils36 : kn.nils 36 = nil36 := rfl
@[simp] theorem k_gc36 : kn.gc 36 = true := rfl
@[simp] theorem k_ali36 : kn.ali 36 = false := rfl
/-! 40: spec.RuneBytes -/
@[simp] theorem c_keep40 (r : Nat) : cf.keep 40 r = tab40.getD r [] := rfl
@[simp] theorem c_pure40 : cf.pure 40 = true := rfl
@[simp] theorem c_pack40 : cf.pack 40 = .whole := rfl
@[simp] theorem c_wary40 (r : Nat) : cf.wary 40 r = false := rfl
@[simp] theorem c_clone40 : cf.clone 40 = none := rfl
@[simp] theorem k_out40 : kn.out 40 = .frz [[some (.i .u8)]] := rfl
@[simp] theorem k_args40 : kn.args 40 = [] := rfl
@[simp] theorem k_nils40 : kn.nils 40 = nil40 := rfl
@[simp] theorem k_gc40 : kn.gc 40 = true := rfl
@[simp] theorem k_ali40 : kn.ali 40 = false := rfl
/-! 42: impl.runesOf -/
@[simp] theorem c_keep42 (r : Nat) : cf.keep 42 r = tab42.getD r [] := rfl
@[simp] theorem c_pure42 : cf.pure 42 = true := rfl
@[simp] theorem c_pack42 : cf.pack 42 = .whole := rfl
@[simp] theorem c_wary42 (r : Nat) : cf.wary 42 r = false := rfl
@[simp] theorem c_clone42 : cf.clone 42 = none := rfl
@[simp] theorem k_out42 : kn.out 42 = .own [[some (.i .i64)]] := rfl
@[simp] theorem k_args42 : kn.args 42 = [[some (.i .u8)]] := rfl
@[simp] theorem k_nils42 : kn.nils 42 = nil42 := rfl
@[simp] theorem k_gc42 : kn.gc 42 = true := rfl
@[simp] theorem k_ali42 : kn.ali 42 = false := rfl
/-! 43: impl.within -/
@[simp] theorem c_keep43 (r : Nat) : cf.keep 43 r = tab43.getD r [] := rfl
@[simp] theorem c_pure43 : cf.pure 43 = true := rfl
@[simp] theorem c_pack43 : cf.pack 43 = .whole := rfl
@[simp] theorem c_wary43 (r : Nat) : cf.wary 43 r = false := rfl
@[simp] theorem c_clone43 : cf.clone 43 = none := rfl
@[simp] theorem k_out43 : kn.out 43 = .frz [] := rfl
@[simp] theorem k_args43 : kn.args 43 = [] := rfl
@[simp] theorem k_nils43 : kn.nils 43 = fun _ => none := rfl
@[simp] theorem k_gc43 : kn.gc 43 = true := rfl
@[simp] theorem k_ali43 : kn.ali 43 = false := rfl
/-! 44: slices.Contains[[]int,int] -/
@[simp] theorem c_keep44 (r : Nat) : cf.keep 44 r = tab44.getD r [] := rfl
@[simp] theorem c_pure44 : cf.pure 44 = true := rfl
@[simp] theorem c_pack44 : cf.pack 44 = .whole := rfl
@[simp] theorem c_wary44 (r : Nat) : cf.wary 44 r = false := rfl
@[simp] theorem c_clone44 : cf.clone 44 = none := rfl
@[simp] theorem k_out44 : kn.out 44 = .frz [] := rfl
@[simp] theorem k_args44 : kn.args 44 = [[some (.i .i64)]] := rfl
@[simp] theorem k_nils44 : kn.nils 44 = fun _ => none := rfl
@[simp] theorem k_gc44 : kn.gc 44 = true := rfl
@[simp] theorem k_ali44 : kn.ali 44 = false := rfl
/-! 46: spec.Runes -/
@[simp] theorem c_keep46 (r : Nat) : cf.keep 46 r = tab46.getD r [] := rfl
@[simp] theorem c_pure46 : cf.pure 46 = true := rfl
@[simp] theorem c_pack46 : cf.pack 46 = .whole := rfl
@[simp] theorem c_wary46 (r : Nat) : cf.wary 46 r = false := rfl
@[simp] theorem c_clone46 : cf.clone 46 = none := rfl
@[simp] theorem k_out46 : kn.out 46 = .frz [[some (.i .i64)]] := rfl
@[simp] theorem k_args46 : kn.args 46 = [[some (.i .u8)]] := rfl
@[simp] theorem k_nils46 : kn.nils 46 = nil46 := rfl
@[simp] theorem k_gc46 : kn.gc 46 = true := rfl
@[simp] theorem k_ali46 : kn.ali 46 = false := rfl
/-! 47: spec.DigitOf -/
@[simp] theorem c_keep47 (r : Nat) : cf.keep 47 r = tab47.getD r [] := rfl
@[simp] theorem c_pure47 : cf.pure 47 = true := rfl
@[simp] theorem c_pack47 : cf.pack 47 = .whole := rfl
@[simp] theorem c_wary47 (r : Nat) : cf.wary 47 r = false := rfl
@[simp] theorem c_clone47 : cf.clone 47 = none := rfl
@[simp] theorem k_out47 : kn.out 47 = .frz [] := rfl
@[simp] theorem k_args47 : kn.args 47 = [] := rfl
@[simp] theorem k_nils47 : kn.nils 47 = fun _ => none := rfl
@[simp] theorem k_gc47 : kn.gc 47 = true := rfl
@[simp] theorem k_ali47 : kn.ali 47 = false := rfl
/-! 48: spec.SignOf -/
@[simp] theorem c_keep48 (r : Nat) : cf.keep 48 r = tab48.getD r [] := rfl
@[simp] theorem c_pure48 : cf.pure 48 = true := rfl
@[simp] theorem c_pack48 : cf.pack 48 = .whole := rfl
@[simp] theorem c_wary48 (r : Nat) : cf.wary 48 r = false := rfl
@[simp] theorem c_clone48 : cf.clone 48 = none := rfl
@[simp] theorem k_out48 : kn.out 48 = .frz [] := rfl
@[simp] theorem k_args48 : kn.args 48 = [] := rfl
@[simp] theorem k_nils48 : kn.nils 48 = fun _ => none := rfl
@[simp] theorem k_gc48 : kn.gc 48 = true := rfl
@[simp] theorem k_ali48 : kn.ali 48 = false := rfl
/-! 49: spec.IsBlank -/
@[simp] theorem c_keep49 (r : Nat) : cf.keep 49 r = tab49.getD r [] := rfl
@[simp] theorem c_pure49 : cf.pure 49 = true := rfl
@[simp] theorem c_pack49 : cf.pack 49 = .whole := rfl
@[simp] theorem c_wary49 (r : Nat) : cf.wary 49 r = false := rfl
@[simp] theorem c_clone49 : cf.clone 49 = none := rfl
@[simp] theorem k_out49 : kn.out 49 = .frz [] := rfl
@[simp] theorem k_args49 : kn.args 49 = [] := rfl
@[simp] theorem k_nils49 : kn.nils 49 = fun _ => none := rfl
@[simp] theorem k_gc49 : kn.gc 49 = true := rfl
@[simp] theorem k_ali49 : kn.ali 49 = false := rfl
/-! 50: spec.l2norm -/
@[simp] theorem c_keep50 (r : Nat) : cf.keep 50 r = tab50.getD r [] := rfl
@[simp] theorem c_pure50 : cf.pure 50 = true := rfl
@[simp] theorem c_pack50 : cf.pack 50 = .whole := rfl
@[simp] theorem c_wary50 (r : Nat) : cf.wary 50 r = false := rfl
@[simp] theorem c_clone50 : cf.clone 50 = none := rfl
@[simp] theorem k_out50 : kn.out 50 = .own [[some (.i .i64)]] := rfl
@[simp] theorem k_args50 : kn.args 50 = [[some (.i .i64)]] := rfl
@[simp] theorem k_nils50 : kn.nils 50 = fun _ => none := rfl
@[simp] theorem k_gc50 : kn.gc 50 = true := rfl
@[simp] theorem k_ali50 : kn.ali 50 = false := rfl
/-! 51: spec.l2add -/
@[simp] theorem c_keep51 (r : Nat) : cf.keep 51 r = tab51.getD r [] := rfl
@[simp] theorem c_pure51 : cf.pure 51 = true := rfl
@[simp] theorem c_pack51 : cf.pack 51 = .whole := rfl
@[simp] theorem c_wary51 (r : Nat) : cf.wary 51 r = false := rfl
@[simp] theorem c_clone51 : cf.clone 51 = none := rfl
@[simp] theorem k_out51 : kn.out 51 = .frz [[some (.i .i64)]] := rfl
@[simp] theorem k_args51 : kn.args 51 = [[some (.i .i64)], [some (.i .i64)]] := rfl
@[simp] theorem k_nils51 : kn.nils 51 = nil51 := rfl
@[simp] theorem k_gc51 : kn.gc 51 = true := rfl
@[simp] theorem k_ali51 : kn.ali 51 = false := rfl
/-! 52: spec.l2mul -/
@[simp] theorem c_keep52 (r : Nat) : cf.keep 52 r = tab52.getD r [] := rfl
@[simp] theorem c_pure52 : cf.pure 52 = true := rfl
@[simp] theorem c_pack52 : cf.pack 52 = .whole := rfl
@[simp] theorem c_wary52 (r : Nat) : cf.wary 52 r = false := rfl
@[simp] theorem c_clone52 : cf.clone 52 = none := rfl
@[simp] theorem k_out52 : kn.out 52 = .frz [[some (.i .i64)]] := rfl
@[simp] theorem k_args52 : kn.args 52 = [[some (.i .i64)], [some (.i .i64)]] := rfl
@[simp] theorem k_nils52 : kn.nils 52 = fun _ => none := rfl
@[simp] theorem k_gc52 : kn.gc 52 = true := rfl
@[simp] theorem k_ali52 : kn.ali 52 = false := rfl
/-! 53: spec.l2of -/
@[simp] theorem c_keep53 (r : Nat) : cf.keep 53 r = tab53.getD r [] := rfl
@[simp] theorem c_pure53 : cf.pure 53 = true := rfl
@[simp] theorem c_pack53 : cf.pack 53 = .whole := rfl
@[simp] theorem c_wary53 (r : Nat) : cf.wary 53 r = false := rfl
@[simp] theorem c_clone53 : cf.clone 53 = none := rfl
@[simp] theorem k_out53 : kn.out 53 = .own [[some (.i .i64)]] := rfl
@[simp] theorem k_args53 : kn.args 53 = [] := rfl
@[simp] theorem k_nils53 : kn.nils 53 = nil53 := rfl
@[simp] theorem k_gc53 : kn.gc 53 = true := rfl
@[simp] theorem k_ali53 : kn.ali 53 = false := rfl
/-! 54: impl.areAll[byte] -/
@[simp] theorem c_keep54 (r : Nat) : cf.keep 54 r = tab54.getD r [] := rfl
@[simp] theorem c_pure54 : cf.pure 54 = true := rfl
@[simp] theorem c_pack54 : cf.pack 54 = .whole := rfl
@[simp] theorem c_wary54 (r : Nat) : cf.wary 54 r = false := rfl
@[simp] theorem c_clone54 : cf.clone 54 = none := rfl
@[simp] theorem k_out54 : kn.out 54 = .frz [] := rfl
@[simp] theorem k_args54 : kn.args 54 = [[some (.i .u8)]] := rfl
@[simp] theorem k_nils54 : kn.nils 54 = fun _ => none := rfl
@[simp] theorem k_gc54 : kn.gc 54 = true := rfl
@[simp] theorem k_ali54 : kn.ali 54 = false := rfl
/-! 55: impl.areDigits$1 -/
@[simp] theorem c_keep55 (r : Nat) : cf.keep 55 r = tab55.getD r [] := rfl
@[simp] theorem c_pure55 : cf.pure 55 = true := rfl
@[simp] theorem c_pack55 : cf.pack 55 = .whole := rfl
@[simp] theorem c_wary55 (r : Nat) : cf.wary 55 r = false := rfl
@[simp] theorem c_clone55 : cf.clone 55 = none := rfl
@[simp] theorem k_out55 : kn.out 55 = .frz [] := rfl
@[simp] theorem k_args55 : kn.args 55 = [] := rfl
@[simp] theorem k_nils55 : kn.nils 55 = fun _ => none := rfl
@[simp] theorem k_gc55 : kn.gc 55 = true := rfl
@[simp] theorem k_ali55 : kn.ali 55 = false := rfl
/-! 56: impl.natOf -/
@[simp] theorem c_keep56 (r : Nat) : cf.keep 56 r = tab56.getD r [] := rfl
@[simp] theorem c_pure56 : cf.pure 56 = true := rfl
@[simp] theorem c_pack56 : cf.pack 56 = .whole := rfl
@[simp] theorem c_wary56 (r : Nat) : cf.wary 56 r = false := rfl
@[simp] theorem c_clone56 : cf.clone 56 = none := rfl
@[simp] theorem k_out56 : kn.out 56 = .own [[some (.i .i64)]] := rfl
@[simp] theorem k_args56 : kn.args 56 = [[some (.i .i64)]] := rfl
@[simp] theorem k_nils56 : kn.nils 56 = fun _ => none := rfl
@[simp] theorem k_gc56 : kn.gc 56 = true := rfl
@[simp] theorem k_ali56 : kn.ali 56 = false := rfl
/-! 57: impl.plus -/
@[simp] theorem c_keep57 (r : Nat) : cf.keep 57 r = tab57.getD r [] := rfl
@[simp] theorem c_pure57 : cf.pure 57 = true := rfl
@[simp] theorem c_pack57 : cf.pack 57 = .whole := rfl
@[simp] theorem c_wary57 (r : Nat) : cf.wary 57 r = false := rfl
@[simp] theorem c_clone57 : cf.clone 57 = none := rfl
@[simp] theorem k_out57 : kn.out 57 = .own [[some (.i .i64)]] := rfl
@[simp] theorem k_args57 : kn.args 57 = [[some (.i .i64)], [some (.i .i64)]] := rfl
@[simp] theorem k_nils57 : kn.nils 57 = nil57 := rfl
@[simp] theorem k_gc57 : kn.gc 57 = true := rfl
@[simp] theorem k_ali57 : kn.ali 57 = false := rfl
/-! 58: impl.times -/
@[simp] theorem c_keep58 (r : Nat) : cf.keep 58 r = tab58.getD r [] := rfl
@[simp] theorem c_pure58 : cf.pure 58 = true := rfl
@[simp] theorem c_pack58 : cf.pack 58 = .whole := rfl
@[simp] theorem c_wary58 (r : Nat) : cf.wary 58 r = false := rfl
@[simp] theorem c_clone58 : cf.clone 58 = none := rfl
@[simp] theorem k_out58 : kn.out 58 = .own [[some (.i .i64)]] := rfl
@[simp] theorem k_args58 : kn.args 58 = [[some (.i .i64)], [some (.i .i64)]] := rfl
@[simp] theorem k_nils58 : kn.nils 58 = nil58 := rfl
@[simp] theorem k_gc58 : kn.gc 58 = true := rfl
@[simp] theorem k_ali58 : kn.ali 58 = false := rfl
/-! 59: impl.small -/
@[simp] theorem c_keep59 (r : Nat) : cf.keep 59 r = tab59.getD r [] := rfl
@[simp] theorem c_pure59 : cf.pure 59 = true := rfl
@[simp] theorem c_pack59 : cf.pack 59 = .whole := rfl
@[simp] theorem c_wary59 (r : Nat) : cf.wary 59 r = false := rfl
@[simp] theorem c_clone59 : cf.clone 59 = none := rfl
@[simp] theorem k_out59 : kn.out 59 = .own [[some (.i .i64)]] := rfl
@[simp] theorem k_args59 : kn.args 59 = [] := rfl
@[simp] theorem k_nils59 : kn.nils 59 = nil59 := rfl
@[simp] theorem k_gc59 : kn.gc 59 = true := rfl
@[simp] theorem k_ali59 : kn.ali 59 = false := rfl
/-! 60: laws.eqIntS -/
@[simp] theorem c_keep60 (r : Nat) : cf.keep 60 r = tab60.getD r [] := rfl
@[simp] theorem c_pure60 : cf.pure 60 = true := rfl
@[simp] theorem c_pack60 : cf.pack 60 = .whole := rfl
@[simp] theorem c_wary60 (r : Nat) : cf.wary 60 r = false := rfl
@[simp] theorem c_clone60 : cf.clone 60 = none := rfl
@[simp] theorem k_out60 : kn.out 60 = .frz [] := rfl
@[simp] theorem k_args60 : kn.args 60 = [[some (.i .i64)], [some (.i .i64)]] := rfl
@[simp] theorem k_nils60 : kn.nils 60 = fun _ => none := rfl
@[simp] theorem k_gc60 : kn.gc 60 = true := rfl
@[simp] theorem k_ali60 : kn.ali 60 = false := rfl
/-! 61: laws.markIntS -/
@[simp] theorem c_keep61 (r : Nat) : cf.keep 61 r = tab61.getD r [] := rfl
@[simp] theorem c_pure61 : cf.pure 61 = false := rfl
@[simp] theorem c_pack61 : cf.pack 61 = .whole := rfl
@[simp] theorem c_wary61 (r : Nat) : cf.wary 61 r = false := rfl
@[simp] theorem c_clone61 : cf.clone 61 = none := rfl
@[simp] theorem k_out61 : kn.out 61 = .inl := rfl
@[simp] theorem k_args61 : kn.args 61 = [] := rfl
@[simp] theorem k_nils61 : kn.nils 61 = fun _ => none := rfl
@[simp] theorem k_gc61 : kn.gc 61 = false := rfl
@[simp] theorem k_ali61 : kn.ali 61 = false := rfl
/-! 62: laws.heldIntS -/
@[simp] theorem c_keep62 (r : Nat) : cf.keep 62 r = tab62.getD r [] := rfl
@[simp] theorem c_pure62 : cf.pure 62 = true := rfl
@[simp] theorem c_pack62 : cf.pack 62 = .whole := rfl
@[simp] theorem c_wary62 (r : Nat) : cf.wary 62 r = false := rfl
@[simp] theorem c_clone62 : cf.clone 62 = none := rfl
@[simp] theorem k_out62 : kn.out 62 = .frz [] := rfl
@[simp] theorem k_args62 : kn.args 62 = [[some (.i .i64)]] := rfl
@[simp] theorem k_nils62 : kn.nils 62 = fun _ => none := rfl
@[simp] theorem k_gc62 : kn.gc 62 = true := rfl
@[simp] theorem k_ali62 : kn.ali 62 = false := rfl
/-! 66: impl.RuneBytes -/
@[simp] theorem c_keep66 (r : Nat) : cf.keep 66 r = tab66.getD r [] := rfl
@[simp] theorem c_pure66 : cf.pure 66 = true := rfl
@[simp] theorem c_pack66 : cf.pack 66 = .whole := rfl
@[simp] theorem c_wary66 (r : Nat) : cf.wary 66 r = false := rfl
@[simp] theorem c_clone66 : cf.clone 66 = none := rfl
@[simp] theorem k_out66 : kn.out 66 = .own [[some (.i .u8)]] := rfl
@[simp] theorem k_args66 : kn.args 66 = [] := rfl
@[simp] theorem k_nils66 : kn.nils 66 = nil66 := rfl
@[simp] theorem k_gc66 : kn.gc 66 = true := rfl
@[simp] theorem k_ali66 : kn.ali 66 = false := rfl
/-! 69: spec.l1may -/
@[simp] theorem c_keep69 (r : Nat) : cf.keep 69 r = tab69.getD r [] := rfl
@[simp] theorem c_pure69 : cf.pure 69 = true := rfl
@[simp] theorem c_pack69 : cf.pack 69 = .whole := rfl
@[simp] theorem c_wary69 (r : Nat) : cf.wary 69 r = false := rfl
@[simp] theorem c_clone69 : cf.clone 69 = none := rfl
@[simp] theorem k_out69 : kn.out 69 = .frz [] := rfl
@[simp] theorem k_args69 : kn.args 69 = [] := rfl
@[simp] theorem k_nils69 : kn.nils 69 = fun _ => none := rfl
@[simp] theorem k_gc69 : kn.gc 69 = true := rfl
@[simp] theorem k_ali69 : kn.ali 69 = false := rfl
/-! 70: impl.runeAt -/
@[simp] theorem c_keep70 (r : Nat) : cf.keep 70 r = tab70.getD r [] := rfl
@[simp] theorem c_pure70 : cf.pure 70 = true := rfl
@[simp] theorem c_pack70 : cf.pack 70 = .whole := rfl
@[simp] theorem c_wary70 (r : Nat) : cf.wary 70 r = false := rfl
@[simp] theorem c_clone70 : cf.clone 70 = none := rfl
@[simp] theorem k_out70 : kn.out 70 = .frz [] := rfl
@[simp] theorem k_args70 : kn.args 70 = [[some (.i .u8)]] := rfl
@[simp] theorem k_nils70 : kn.nils 70 = fun _ => none := rfl
@[simp] theorem k_gc70 : kn.gc 70 = true := rfl
@[simp] theorem k_ali70 : kn.ali 70 = false := rfl
/-! 71: slices.Index[[]int,int] -/
@[simp] theorem c_keep71 (r : Nat) : cf.keep 71 r = tab71.getD r [] := rfl
@[simp] theorem c_pure71 : cf.pure 71 = true := rfl
@[simp] theorem c_pack71 : cf.pack 71 = .whole := rfl
@[simp] theorem c_wary71 (r : Nat) : cf.wary 71 r = false := rfl
@[simp] theorem c_clone71 : cf.clone 71 = none := rfl
@[simp] theorem k_out71 : kn.out 71 = .frz [] := rfl
@[simp] theorem k_args71 : kn.args 71 = [[some (.i .i64)]] := rfl
@[simp] theorem k_nils71 : kn.nils 71 = fun _ => none := rfl
@[simp] theorem k_gc71 : kn.gc 71 = true := rfl
@[simp] theorem k_ali71 : kn.ali 71 = false := rfl
/-! 72: spec.l1rune -/
@[simp] theorem c_keep72 (r : Nat) : cf.keep 72 r = tab72.getD r [] := rfl
@[simp] theorem c_pure72 : cf.pure 72 = true := rfl
@[simp] theorem c_pack72 : cf.pack 72 = .whole := rfl
@[simp] theorem c_wary72 (r : Nat) : cf.wary 72 r = false := rfl
@[simp] theorem c_clone72 : cf.clone 72 = none := rfl
@[simp] theorem k_out72 : kn.out 72 = .frz [] := rfl
@[simp] theorem k_args72 : kn.args 72 = [[some (.i .u8)]] := rfl
@[simp] theorem k_nils72 : kn.nils 72 = fun _ => none := rfl
@[simp] theorem k_gc72 : kn.gc 72 = true := rfl
@[simp] theorem k_ali72 : kn.ali 72 = false := rfl
/-! 73: slices.ContainsFunc[[]byte,byte] -/
@[simp] theorem c_keep73 (r : Nat) : cf.keep 73 r = tab73.getD r [] := rfl
@[simp] theorem c_pure73 : cf.pure 73 = true := rfl
@[simp] theorem c_pack73 : cf.pack 73 = .whole := rfl
@[simp] theorem c_wary73 (r : Nat) : cf.wary 73 r = false := rfl
@[simp] theorem c_clone73 : cf.clone 73 = none := rfl
@[simp] theorem k_out73 : kn.out 73 = .frz [] := rfl
@[simp] theorem k_args73 : kn.args 73 = [[some (.i .u8)]] := rfl
@[simp] theorem k_nils73 : kn.nils 73 = fun _ => none := rfl
@[simp] theorem k_gc73 : kn.gc 73 = true := rfl
@[simp] theorem k_ali73 : kn.ali 73 = false := rfl
/-! 74: impl.areAll[byte]$1 -/
@[simp] theorem c_keep74 (r : Nat) : cf.keep 74 r = tab74.getD r [] := rfl
@[simp] theorem c_pure74 : cf.pure 74 = true := rfl
@[simp] theorem c_pack74 : cf.pack 74 = .whole := rfl
@[simp] theorem c_wary74 (r : Nat) : cf.wary 74 r = false := rfl
@[simp] theorem c_clone74 : cf.clone 74 = none := rfl
@[simp] theorem k_out74 : kn.out 74 = .frz [] := rfl
@[simp] theorem k_args74 : kn.args 74 = [] := rfl
@[simp] theorem k_nils74 : kn.nils 74 = fun _ => none := rfl
@[simp] theorem k_gc74 : kn.gc 74 = true := rfl
@[simp] theorem k_ali74 : kn.ali 74 = false := rfl
/-! 75: slices.Clone[[]int,int] -/
@[simp] theorem c_keep75 (r : Nat) : cf.keep 75 r = tab75.getD r [] := rfl
@[simp] theorem c_pure75 : cf.pure 75 = true := rfl
@[simp] theorem c_pack75 : cf.pack 75 = .pack [.i64] := rfl
@[simp] theorem c_wary75 (r : Nat) : cf.wary 75 r = false := rfl
@[simp] theorem c_clone75 : cf.clone 75 = some .i64 := rfl
@[simp] theorem k_out75 : kn.out 75 = .own [[some (.i .i64)]] := rfl
@[simp] theorem k_args75 : kn.args 75 = [[some (.i .i64)]] := rfl
@[simp] theorem k_nils75 : kn.nils 75 = nil75 := rfl
@[simp] theorem k_gc75 : kn.gc 75 = true := rfl
@[simp] theorem k_ali75 : kn.ali 75 = false := rfl
/-! 76: impl.trim -/
@[simp] theorem c_keep76 (r : Nat) : cf.keep 76 r = tab76.getD r [] := rfl
@[simp] theorem c_pure76 : cf.pure 76 = true := rfl
@[simp] theorem c_pack76 : cf.pack 76 = .whole := rfl
@[simp] theorem c_wary76 (r : Nat) : cf.wary 76 r = false := rfl
@[simp] theorem c_clone76 : cf.clone 76 = none := rfl
@[simp] theorem k_out76 : kn.out 76 = .inl := rfl
@[simp] theorem k_args76 : kn.args 76 = [[some (.i .i64)]] := rfl
@[simp] theorem k_nils76 : kn.nils 76 = nil76 := rfl
@[simp] theorem k_gc76 : kn.gc 76 = false := rfl
@[simp] theorem k_ali76 : kn.ali 76 = true := rfl
/-! 77: impl.isPoint -/
@[simp] theorem c_keep77 (r : Nat) : cf.keep 77 r = tab77.getD r [] := rfl
@[simp] theorem c_pure77 : cf.pure 77 = true := rfl
@[simp] theorem c_pack77 : cf.pack 77 = .whole := rfl
@[simp] theorem c_wary77 (r : Nat) : cf.wary 77 r = false := rfl
@[simp] theorem c_clone77 : cf.clone 77 = none := rfl
@[simp] theorem k_out77 : kn.out 77 = .frz [] := rfl
@[simp] theorem k_args77 : kn.args 77 = [] := rfl
@[simp] theorem k_nils77 : kn.nils 77 = fun _ => none := rfl
@[simp] theorem k_gc77 : kn.gc 77 = true := rfl
@[simp] theorem k_ali77 : kn.ali 77 = false := rfl
/-! 78: impl.sizeOf -/
@[simp] theorem c_keep78 (r : Nat) : cf.keep 78 r = tab78.getD r [] := rfl
@[simp] theorem c_pure78 : cf.pure 78 = true := rfl
@[simp] theorem c_pack78 : cf.pack 78 = .whole := rfl
@[simp] theorem c_wary78 (r : Nat) : cf.wary 78 r = false := rfl
@[simp] theorem c_clone78 : cf.clone 78 = none := rfl
@[simp] theorem k_out78 : kn.out 78 = .frz [] := rfl
@[simp] theorem k_args78 : kn.args 78 = [] := rfl
@[simp] theorem k_nils78 : kn.nils 78 = fun _ => none := rfl
@[simp] theorem k_gc78 : kn.gc 78 = true := rfl
@[simp] theorem k_ali78 : kn.ali 78 = false := rfl
/-! 81: impl.leadSize -/
@[simp] theorem c_keep81 (r : Nat) : cf.keep 81 r = tab81.getD r [] := rfl
@[simp] theorem c_pure81 : cf.pure 81 = true := rfl
@[simp] theorem c_pack81 : cf.pack 81 = .whole := rfl
@[simp] theorem c_wary81 (r : Nat) : cf.wary 81 r = false := rfl
@[simp] theorem c_clone81 : cf.clone 81 = none := rfl
@[simp] theorem k_out81 : kn.out 81 = .frz [] := rfl
@[simp] theorem k_args81 : kn.args 81 = [] := rfl
@[simp] theorem k_nils81 : kn.nils 81 = fun _ => none := rfl
@[simp] theorem k_gc81 : kn.gc 81 = true := rfl
@[simp] theorem k_ali81 : kn.ali 81 = false := rfl
/-! 82: spec.l1tail -/
@[simp] theorem c_keep82 (r : Nat) : cf.keep 82 r = tab82.getD r [] := rfl
@[simp] theorem c_pure82 : cf.pure 82 = true := rfl
@[simp] theorem c_pack82 : cf.pack 82 = .whole := rfl
@[simp] theorem c_wary82 (r : Nat) : cf.wary 82 r = false := rfl
@[simp] theorem c_clone82 : cf.clone 82 = none := rfl
@[simp] theorem k_out82 : kn.out 82 = .frz [] := rfl
@[simp] theorem k_args82 : kn.args 82 = [[some (.i .u8)]] := rfl
@[simp] theorem k_nils82 : kn.nils 82 = fun _ => none := rfl
@[simp] theorem k_gc82 : kn.gc 82 = true := rfl
@[simp] theorem k_ali82 : kn.ali 82 = false := rfl
/-! 83: slices.IndexFunc[[]byte,byte] -/
@[simp] theorem c_keep83 (r : Nat) : cf.keep 83 r = tab83.getD r [] := rfl
@[simp] theorem c_pure83 : cf.pure 83 = true := rfl
@[simp] theorem c_pack83 : cf.pack 83 = .whole := rfl
@[simp] theorem c_wary83 (r : Nat) : cf.wary 83 r = false := rfl
@[simp] theorem c_clone83 : cf.clone 83 = none := rfl
@[simp] theorem k_out83 : kn.out 83 = .frz [] := rfl
@[simp] theorem k_args83 : kn.args 83 = [[some (.i .u8)]] := rfl
@[simp] theorem k_nils83 : kn.nils 83 = fun _ => none := rfl
@[simp] theorem k_gc83 : kn.gc 83 = true := rfl
@[simp] theorem k_ali83 : kn.ali 83 = false := rfl
theorem kept0 : ((impL ++ aliL).all fun f => (match kn.out f with | .inl => true | _ => false) && !kn.gc f) = true := by kernel_rfl
theorem kept1 (f : FuncId) : (cf.pure f = true ∧ kn.ali f = false) ∨ (kn.out f = .inl ∧ kn.gc f = false) := by
  cases hb : (impL ++ aliL).contains f with
  | false =>
    have h1 : ¬ f ∈ impL ++ aliL := fun h => by rw [List.contains_iff_mem.2 h] at hb; simp at hb
    rw [List.mem_append] at h1
    refine .inl ⟨?_, ?_⟩
    · show (!impL.contains f) = true
      cases h2 : impL.contains f with
      | false => rfl
      | true => exact absurd (.inl (List.contains_iff_mem.1 h2)) h1
    · show aliL.contains f = false
      cases h2 : aliL.contains f with
      | false => rfl
      | true => exact absurd (.inr (List.contains_iff_mem.1 h2)) h1
  | true =>
    have h := List.all_eq_true.1 kept0 f (List.contains_iff_mem.1 hb)
    rw [Bool.and_eq_true] at h
    refine .inr ⟨?_, by simpa using h.2⟩
    cases ho : kn.out f with
    | inl => rfl
    | own ks => rw [ho] at h; simp at h
    | frz ks => rw [ho] at h; simp at h
theorem kept : Kept kn where
  gc f hg := (kept1 f).resolve_right fun h => by rw [h.2] at hg; simp at hg
  out f := (kept1 f).symm.imp (fun h ks e => by rw [h.1] at e; cases e) id
  own f := (kept1 f).symm.imp (fun h ks e => by rw [h.1] at e; cases e) id
/-- What the proof of the engine asks of a function. -/
def staticF (cf : Cfg) (f : FuncId) (m : PM) (fn : Func) : Bool := match m with
  | .no => true
  | _ => match fn.body with
    | some c => codeOk cf f fn.ntmps c && !(fn.name == "runtime.NumGoroutine")
    | none => true
theorem static_all : ((List.range Try.prog.funcs.size).all fun f => Try.prog.funcs[f]?.all (staticF cf f (cf.pack f))) = true := by kernel_rfl
theorem static : Static Try.prog cf := fun f fn c hf hb hno => by
  have h := List.all_eq_true.1 static_all f (List.mem_range.2 (Array.getElem?_eq_some_iff.1 hf).1)
  rw [hf] at h
  simp only [Option.all_some] at h
  unfold staticF at h
  split at h
  · rename_i e; exact absurd e hno
  · rw [hb] at h; simpa using h
@[simp] theorem c_rounds : cf.rounds = 4294967296 := rfl
end Go.Eng
