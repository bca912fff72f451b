/- The value engine: the tables of this seat: types, and of each function what its regions and its calls leave. Printed by a program of this session. No conditions. -/
import Derived.Test.YtkfeofjgdijbeaaProg
import Derived.Test.YtkfeofjgdijbeaaVb
import Derived.KernelRfl
set_option linter.unusedVariables false
set_option linter.unusedSimpArgs false
namespace Go.Eng
open Go.Proofs
set_option maxRecDepth 100000
@[simp] theorem ty_u_3 : Try.prog.underlying 3 = some (.int .i64) := by kernel_rfl
@[simp] theorem ty_k_3 : kindOf Try.prog 3 = some .i64 := by kernel_rfl
@[simp] theorem ty_a_3 : aggT Try.prog 3 = some false := by kernel_rfl
@[simp] theorem ty_s_3 : sizeT Try.prog 3 = some 1 := by kernel_rfl
@[simp] theorem ty_b_3 : bytesT Try.prog 3 = some 8 := by kernel_rfl
@[simp] theorem ty_z_3 : zeroT Try.prog 3 = some (.c (.int .i64 0)) := by kernel_rfl
@[simp] theorem ty_u_4 : Try.prog.underlying 4 = some (.bool) := by kernel_rfl
@[simp] theorem ty_k_4 : kindOf Try.prog 4 = none := by kernel_rfl
@[simp] theorem ty_a_4 : aggT Try.prog 4 = some false := by kernel_rfl
@[simp] theorem ty_s_4 : sizeT Try.prog 4 = some 1 := by kernel_rfl
@[simp] theorem ty_b_4 : bytesT Try.prog 4 = some 1 := by kernel_rfl
@[simp] theorem ty_z_4 : zeroT Try.prog 4 = some (.c (.bool false)) := by kernel_rfl
@[simp] theorem ty_u_5 : Try.prog.underlying 5 = some (.int .u8) := by kernel_rfl
@[simp] theorem ty_k_5 : kindOf Try.prog 5 = some .u8 := by kernel_rfl
@[simp] theorem ty_a_5 : aggT Try.prog 5 = some false := by kernel_rfl
@[simp] theorem ty_s_5 : sizeT Try.prog 5 = some 1 := by kernel_rfl
@[simp] theorem ty_b_5 : bytesT Try.prog 5 = some 1 := by kernel_rfl
@[simp] theorem ty_z_5 : zeroT Try.prog 5 = some (.c (.int .u8 0)) := by kernel_rfl
@[simp] theorem ty_u_9 : Try.prog.underlying 9 = some (.string) := by kernel_rfl
@[simp] theorem ty_k_9 : kindOf Try.prog 9 = none := by kernel_rfl
@[simp] theorem ty_a_9 : aggT Try.prog 9 = some false := by kernel_rfl
@[simp] theorem ty_s_9 : sizeT Try.prog 9 = some 1 := by kernel_rfl
@[simp] theorem ty_b_9 : bytesT Try.prog 9 = some 16 := by kernel_rfl
@[simp] theorem ty_z_9 : zeroT Try.prog 9 = some (.c (.str ⟨#[]⟩)) := by kernel_rfl
@[simp] theorem ty_u_22 : Try.prog.underlying 22 = some (.slice 5) := by kernel_rfl
@[simp] theorem ty_k_22 : kindOf Try.prog 22 = none := by kernel_rfl
@[simp] theorem ty_a_22 : aggT Try.prog 22 = some false := by kernel_rfl
@[simp] theorem ty_s_22 : sizeT Try.prog 22 = some 1 := by kernel_rfl
@[simp] theorem ty_b_22 : bytesT Try.prog 22 = some 24 := by kernel_rfl
@[simp] theorem ty_e_22 : elemS Try.prog 22 = some 5 := by kernel_rfl
@[simp] theorem ty_z_22 : zeroT Try.prog 22 = some (.c (.nil)) := by kernel_rfl
@[simp] theorem ty_u_24 : Try.prog.underlying 24 = some (.slice 3) := by kernel_rfl
@[simp] theorem ty_k_24 : kindOf Try.prog 24 = none := by kernel_rfl
@[simp] theorem ty_a_24 : aggT Try.prog 24 = some false := by kernel_rfl
@[simp] theorem ty_s_24 : sizeT Try.prog 24 = some 1 := by kernel_rfl
@[simp] theorem ty_b_24 : bytesT Try.prog 24 = some 24 := by kernel_rfl
@[simp] theorem ty_e_24 : elemS Try.prog 24 = some 3 := by kernel_rfl
@[simp] theorem ty_z_24 : zeroT Try.prog 24 = some (.c (.nil)) := by kernel_rfl
@[simp] theorem ty_k_26 : kindOf Try.prog 26 = none := by kernel_rfl
@[simp] theorem ty_a_26 : aggT Try.prog 26 = some true := by kernel_rfl
@[simp] theorem ty_s_26 : sizeT Try.prog 26 = some 1 := by kernel_rfl
@[simp] theorem ty_b_26 : bytesT Try.prog 26 = some 24 := by kernel_rfl
@[simp] theorem ty_z_26 : zeroT Try.prog 26 = some (.agg [.nil]) := by kernel_rfl
@[simp] theorem ty_f_26_0 : fieldOf Try.prog 26 0 = some (0, 1, false) := by kernel_rfl
@[simp] theorem ty_p_26 : placesB Try.prog 26 = some [(0, 1)] := by kernel_rfl
@[simp] theorem ty_k_28 : kindOf Try.prog 28 = none := by kernel_rfl
@[simp] theorem ty_a_28 : aggT Try.prog 28 = some true := by kernel_rfl
@[simp] theorem ty_s_28 : sizeT Try.prog 28 = some 2 := by kernel_rfl
@[simp] theorem ty_b_28 : bytesT Try.prog 28 = some 32 := by kernel_rfl
@[simp] theorem ty_z_28 : zeroT Try.prog 28 = some (.agg [.bool false, .nil]) := by kernel_rfl
@[simp] theorem ty_f_28_0 : fieldOf Try.prog 28 0 = some (0, 1, false) := by kernel_rfl
@[simp] theorem ty_f_28_1 : fieldOf Try.prog 28 1 = some (1, 1, true) := by kernel_rfl
@[simp] theorem ty_p_28 : placesB Try.prog 28 = some [(0, 1), (1, 1)] := by kernel_rfl
@[simp] theorem ty_u_64 : Try.prog.underlying 64 = some (.pointer 95) := by kernel_rfl
@[simp] theorem ty_k_64 : kindOf Try.prog 64 = none := by kernel_rfl
@[simp] theorem ty_a_64 : aggT Try.prog 64 = some false := by kernel_rfl
@[simp] theorem ty_s_64 : sizeT Try.prog 64 = some 1 := by kernel_rfl
@[simp] theorem ty_b_64 : bytesT Try.prog 64 = some 8 := by kernel_rfl
@[simp] theorem ty_k_95 : kindOf Try.prog 95 = none := by kernel_rfl
@[simp] theorem ty_a_95 : aggT Try.prog 95 = some true := by kernel_rfl
@[simp] theorem ty_s_95 : sizeT Try.prog 95 = some 3 := by kernel_rfl
@[simp] theorem ty_b_95 : bytesT Try.prog 95 = some 40 := by kernel_rfl
@[simp] theorem ty_z_95 : zeroT Try.prog 95 = some (.agg [.nil, .int .i64 0, .int .i64 0]) := by kernel_rfl
@[simp] theorem ty_f_95_0 : fieldOf Try.prog 95 0 = some (0, 1, false) := by kernel_rfl
@[simp] theorem ty_f_95_1 : fieldOf Try.prog 95 1 = some (1, 1, false) := by kernel_rfl
@[simp] theorem ty_f_95_2 : fieldOf Try.prog 95 2 = some (2, 1, false) := by kernel_rfl
@[simp] theorem ty_p_95 : placesB Try.prog 95 = some [(0, 1), (1, 1), (2, 1)] := by kernel_rfl
@[simp] theorem ty_k_100 : kindOf Try.prog 100 = none := by kernel_rfl
@[simp] theorem ty_a_100 : aggT Try.prog 100 = some false := by kernel_rfl
@[simp] theorem ty_s_100 : sizeT Try.prog 100 = some 1 := by kernel_rfl
@[simp] theorem ty_b_100 : bytesT Try.prog 100 = some 8 := by kernel_rfl
def tab3 : List (List Nat) := [[0], [0, 3], [0, 3, 4], [0, 3, 4, 23], [2], [4, 5], [4, 5, 6, 7], [4, 6, 7, 8, 9], [4, 6, 7, 8, 9, 10], [4, 6, 7, 8, 9, 10, 11], [4, 6, 7, 8, 9, 10, 11, 50], [4, 6, 7, 8, 9, 10, 11], [4, 6, 7, 8, 9, 10, 11, 94], [2], [2]]
def tab6 : List (List Nat) := [[0], [2]]
def tab7 : List (List Nat) := [[0], [0, 3], [3, 7, 8, 9], [3, 7, 8, 9, 10], [3, 5, 7, 8, 9], [3, 7, 8, 9], [3, 7, 8, 9], [2]]
def tab8 : List (List Nat) := [[0], [3], [3, 4], [3, 4, 5], [3, 4, 5, 6], [3, 4, 5, 6, 7], [3, 4, 5, 6, 7, 19], [3, 4, 5, 6, 7], [3, 4, 5, 6, 7], [3, 4, 5, 6, 7, 33], [3, 4, 5, 6, 7], [3, 6, 46], [6], [2]]
def tab9 : List (List Nat) := [[0, 2], [0, 2, 8], [2, 3], [2, 4, 5], [2, 4, 5, 18], [2, 3], [2, 3]]
def tab10 : List (List Nat) := [[0], [0, 7], [2], [3], [2]]
def tab11 : List (List Nat) := [[0], [0, 5, 6, 7], [0, 5, 6, 7, 8], [0, 4, 5, 6, 7], [0, 4, 5, 6, 7, 15], [2], [0, 5, 6, 7], [2]]
def tab12 : List (List Nat) := [[0], [2]]
def tab13 : List (List Nat) := [[0], [3], [3, 4], [3, 4], [2], [3, 7], [3, 7], [7], [2], [2]]
def tab14 : List (List Nat) := [[0, 1], [4]]
def tab15 : List (List Nat) := [[2, 3], [4]]
def tab30 : List (List Nat) := [[0], [0, 3], [0, 3, 4], [0, 3, 4, 5], [0, 3, 4, 5, 12], [0, 3, 4, 5], [0, 3, 4, 5], [0, 3, 26], [0, 3, 6], [0, 3, 6, 32], [0, 3, 6, 7], [0, 3], [0, 3, 6, 32, 49], [0, 3], [0, 3, 6, 57], [0, 3], [3, 63], [3], [2]]
def tab31 : List (List Nat) := [[0], [0, 3], [0, 3, 4], [0, 3, 4, 15], [0, 3, 4], [0, 3, 4], [2]]
def tab32 : List (List Nat) := [[0], [0, 3], [2], [0, 12], [2], [0, 18], [2], [0, 24], [2], [2]]
def tab33 : List (List Nat) := [[1], [1, 4], [2], [2]]
def tab34 : List (List Nat) := [[0, 2], [2]]
def tab35 : List (List Nat) := [[0, 1], [4]]
def tab36 : List (List Nat) := [[0], [0, 5], [2], [0, 6], [2], [0, 12], [2], [0, 24], [2], [2]]
def tab37 : List (List Nat) := [[0, 1], [4]]
def tab38 : List (List Nat) := [[0], [0, 18], [2, 3], [2, 3]]
def tab39 : List (List Nat) := [[0], [2]]
def tab40 : List (List Nat) := [[0, 1, 4], [0, 1, 4, 6, 7], [0, 1, 4, 6, 14], [4, 5], [4, 5]]
def tab41 : List (List Nat) := [[0], [0, 3], [3, 6, 7, 8], [3, 6, 7, 8, 9], [3, 5, 6, 7, 8], [3, 6, 7, 8], [3, 6, 7, 8], [2]]
def tab42 : List (List Nat) := [[0], [0, 4], [0, 4, 5], [0, 4, 5, 10], [0, 4, 5, 6, 7], [0, 4, 5, 6, 7], [0, 4, 5, 7], [0, 4, 5], [2, 3]]
def tab43 : List (List Nat) := [[0, 1, 2], [6]]
def tab44 : List (List Nat) := [[0, 1], [4]]
def tab45 : List (List Nat) := [[2, 3], [2, 3, 12], [4], [2, 3, 5], [2, 3, 5, 17], [2, 3, 5], [2, 3, 5, 30], [4], [4]]
def tab62 : List (List Nat) := [[0, 1], [0, 1, 10], [4], [0, 1, 12], [4], [0, 1, 5], [0, 1, 5, 6], [0, 1, 5, 6, 7], [1, 5, 6, 7, 8], [4]]
def tab63 : List (List Nat) := [[0], [0, 4], [2], [0, 9], [2], [2]]
def tab64 : List (List Nat) := [[0], [0], [0, 3], [0, 3, 34], [0, 3], [3], [2]]
def tab65 : List (List Nat) := [[0], [0, 8], [2], [0, 3], [0, 3, 12], [2], [0, 3, 4], [0, 3, 4, 5], [0, 3, 4, 5, 21], [0, 3, 4, 5], [0, 3, 4, 5], [0, 3, 4, 5], [4], [2]]
def tab66 : List (List Nat) := [[1], [1, 11], [2], [1, 3], [1, 3, 17], [1, 3, 4, 5], [1, 3, 4], [1, 3], [3, 6], [3, 6, 7], [3, 6, 7, 34], [3, 6, 7], [3, 6, 7], [2]]
def tab67 : List (List Nat) := [[0, 3, 4], [4]]
def tab68 : List (List Nat) := [[0, 2], [0, 2, 3], [0, 2, 3, 4], [0, 2, 3, 4, 5], [0, 2, 3, 4, 5, 10], [0, 2, 3, 4, 5], [0, 2, 3, 4, 5, 14], [0, 2, 3, 4, 5], [0, 2, 3, 4, 5, 14, 20], [0, 2, 3, 4, 5], [0, 2, 3, 4, 5, 25], [0, 2, 3, 4, 5], [0, 2, 3, 31], [2], [2]]
def tab69 : List (List Nat) := [[0], [2]]
def tab70 : List (List Nat) := [[0, 3], [4]]
def tab71 : List (List Nat) := [[0], [2]]
def tab72 : List (List Nat) := [[0, 2], [0, 2, 6], [2, 3], [2, 3]]
def tab73 : List (List Nat) := [[0, 1], [0, 1, 13], [0, 1], [0, 1, 5], [0, 1, 5, 6], [1, 5, 6, 20, 21, 22], [1, 5, 6, 20, 21, 22, 23], [1, 5, 6, 7, 8, 20, 21, 22], [1, 5, 6, 7, 20, 21, 22], [1, 5, 6, 7, 20, 21, 22, 33], [1, 5, 6, 20, 21, 22], [1, 5, 6, 20, 21, 22], [1, 5, 6, 20, 21, 22], [1, 5, 6, 20, 21, 22], [4]]
def tab74 : List (List Nat) := [[0, 1], [0, 1, 5], [1, 5, 17, 18, 19], [1, 5, 17, 18, 19, 20], [1, 5, 6, 7, 17, 18, 19], [1, 5, 6, 7, 8, 17, 18, 19], [1, 5, 6, 7, 8, 17, 18, 19, 24, 25, 26], [1, 5, 6, 7, 8, 17, 18, 19, 24, 25, 26, 27], [1, 5, 6, 7, 8, 9, 10, 17, 18, 19, 24, 25, 26], [1, 5, 6, 7, 8, 9, 17, 18, 19, 24, 25, 26], [1, 5, 6, 7, 8, 17, 18, 19, 24, 25, 26], [1, 5, 6, 7, 8, 17, 18, 19, 24, 25, 26], [1, 5, 6, 7, 8, 17, 18, 19, 24, 25, 26], [1, 5, 17, 18, 19], [1, 5, 17, 18, 19], [4]]
def tab75 : List (List Nat) := [[0], [0, 3], [0, 3, 5], [0, 3], [0, 3], [2]]
def tab76 : List (List Nat) := [[0], [0, 11], [2, 3], [0, 4, 5], [0, 4, 5, 31], [2, 3], [4, 5, 34, 35, 36], [4, 5, 34, 35, 36, 37], [4, 5, 7, 34, 35, 36], [4, 5, 7, 34, 35, 36, 42], [2, 3], [4, 5, 34, 35, 36], [4, 5, 34, 35, 36], [4, 5, 58], [2, 3], [2, 3]]
def tab77 : List (List Nat) := [[0, 1], [0, 1, 7, 8], [0, 1, 7, 8, 9], [0, 1, 5, 7, 8], [0, 1, 5, 7, 8, 16], [4], [0, 1, 7, 8], [4]]
def tab83 : List (List Nat) := [[0, 2], [0, 2, 3], [0, 2, 3, 5], [0, 2, 3], [0, 2, 3], [2]]
def tab106 : List (List Nat) := [[0], [2]]
def tab107 : List (List Nat) := [[0], [0, 3], [2], [0, 6], [2], [9], [2], [2]]
def tab108 : List (List Nat) := [[1, 2, 4], [1, 2, 4, 6], [1, 2, 4, 6, 7], [1, 2, 4, 6, 7, 8], [1, 2, 4, 6, 7, 8, 19], [1, 2, 4, 6, 7, 8], [1, 2, 4, 6, 8, 9], [1, 2, 4, 6, 8, 9], [1, 2, 4, 6, 7, 8], [4, 5]]
def tab109 : List (List Nat) := [[0, 2], [0, 2, 3], [0, 2, 3, 15], [0, 2, 3], [2]]
def tab110 : List (List Nat) := [[0], [0, 4], [2], [2]]
def tab111 : List (List Nat) := [[0, 1], [4]]
def tab112 : List (List Nat) := [[0, 1], [3]]
def tab113 : List (List Nat) := [[0], [0, 4], [2], [2]]
def tab114 : List (List Nat) := [[0], [0, 14], [0], [2]]
def tab115 : List (List Nat) := [[0], [0, 4], [2, 3], [0, 9], [2, 3], [0, 14], [2, 3], [2, 3]]
def tab132 : List (List Nat) := [[0, 1], [0, 1, 7, 8], [0, 1, 7, 8, 9], [0, 1, 5, 7, 8], [0, 1, 5, 7, 8, 16], [4], [0, 1, 7, 8], [4]]
def tabs : Nat → List (List Nat)
  | 3 => tab3
  | 6 => tab6
  | 7 => tab7
  | 8 => tab8
  | 9 => tab9
  | 10 => tab10
  | 11 => tab11
  | 12 => tab12
  | 13 => tab13
  | 14 => tab14
  | 15 => tab15
  | 30 => tab30
  | 31 => tab31
  | 32 => tab32
  | 33 => tab33
  | 34 => tab34
  | 35 => tab35
  | 36 => tab36
  | 37 => tab37
  | 38 => tab38
  | 39 => tab39
  | 40 => tab40
  | 41 => tab41
  | 42 => tab42
  | 43 => tab43
  | 44 => tab44
  | 45 => tab45
  | 62 => tab62
  | 63 => tab63
  | 64 => tab64
  | 65 => tab65
  | 66 => tab66
  | 67 => tab67
  | 68 => tab68
  | 69 => tab69
  | 70 => tab70
  | 71 => tab71
  | 72 => tab72
  | 73 => tab73
  | 74 => tab74
  | 75 => tab75
  | 76 => tab76
  | 77 => tab77
  | 83 => tab83
  | 106 => tab106
  | 107 => tab107
  | 108 => tab108
  | 109 => tab109
  | 110 => tab110
  | 111 => tab111
  | 112 => tab112
  | 113 => tab113
  | 114 => tab114
  | 115 => tab115
  | 132 => tab132
  | _ => []
def impL : List Nat := [30, 31, 34, 35, 37, 62, 63, 64, 68, 110]
def aliL : List Nat := [114]
def gcL : List Nat := [7, 9, 10, 11, 12, 13, 14, 15, 32, 33, 36, 38, 39, 40, 41, 42, 43, 44, 45, 65, 66, 67, 69, 70, 71, 72, 73, 74, 75, 76, 77, 83, 106, 107, 108, 109, 111, 112, 113, 115, 132]
def ownL : List Nat := [3, 6, 7, 8, 9, 10, 11, 12, 13, 14, 15, 30, 31, 32, 33, 34, 35, 36, 37, 38, 39, 40, 41, 42, 43, 44, 45, 62, 63, 64, 65, 66, 67, 68, 69, 70, 71, 72, 73, 74, 75, 76, 77, 83, 106, 107, 108, 109, 110, 111, 112, 113, 114, 115, 132]
def cf : Cfg where
  pure := fun f => !impL.contains f
  keep := fun f r => (tabs f).getD r []
  pack := fun f => if f = 113 then .pack [.i64] else if ownL.contains f then .whole else .no
  clone := fun f => match f with
    | 113 => some .i64
    | _ => none
  glob := fun _ => none
  rounds := 4294967296
  wary := fun f r => match f with
    | _ => false
  emt := fun t => t == 22
  papp := fun a => isTT 36 39 a.toList
def nil6 (t : Nat) : Option NK := if t = 2 then some (.i .u8) else none
def nil7 (t : Nat) : Option NK := if t = 2 then some (.i .u8) else if t = 3 then some (.i .u8) else none
def nil8 (t : Nat) : Option NK := if t = 2 then some (.i .u8) else if t = 6 then some (.i .u8) else none
def nil10 (t : Nat) : Option NK := if t = 2 then some (.i .i64) else none
def nil30 (t : Nat) : Option NK := if t = 2 then some (.i .u8) else if t = 3 then some (.i .u8) else none
def nil32 (t : Nat) : Option NK := if t = 2 then some (.i .u8) else none
def nil33 (t : Nat) : Option NK := if t = 2 then some (.i .u8) else none
def nil36 (t : Nat) : Option NK := if t = 2 then some (.i .u8) else none
def nil38 (t : Nat) : Option NK := if t = 2 then some (.i .u8) else none
def nil41 (t : Nat) : Option NK := if t = 2 then some (.i .i64) else if t = 3 then some (.i .i64) else none
def nil42 (t : Nat) : Option NK := if t = 2 then some (.i .i64) else if t = 4 then some (.i .i64) else none
def nil65 (t : Nat) : Option NK := if t = 2 then some (.i .u8) else none
def nil66 (t : Nat) : Option NK := if t = 2 then some (.i .u8) else if t = 3 then some (.i .u8) else if t = 6 then some (.i .u8) else none
def nil68 (t : Nat) : Option NK := if t = 3 then some (.i .i64) else none
def nil73 (t : Nat) : Option NK := if t = 4 then some (.i .i64) else none
def nil74 (t : Nat) : Option NK := if t = 4 then some (.i .i64) else none
def nil75 (t : Nat) : Option NK := if t = 2 then some (.i .i64) else if t = 3 then some (.i .i64) else none
def nil83 (t : Nat) : Option NK := if t = 3 then some (.i .i64) else none
def nil113 (t : Nat) : Option NK := if t = 2 then some (.i .i64) else none
def nil114 (t : Nat) : Option NK := if t = 2 then some (.i .i64) else none
def kn : Kn where
  cf := cf
  out := fun f => match f with
    | 3 => .frz []
    | 6 => .frz [[some (.i .u8)]]
    | 7 => .own [[some (.i .u8)]]
    | 8 => .frz [[some (.i .u8)]]
    | 9 => .own [[none, some (.i .i64)]]
    | 10 => .own [[some (.i .i64)]]
    | 11 => .frz []
    | 12 => .frz []
    | 13 => .frz []
    | 14 => .frz []
    | 15 => .frz []
    | 30 => .inl
    | 31 => .inl
    | 32 => .own [[some (.i .u8)]]
    | 33 => .frz [[some (.i .u8)]]
    | 34 => .inl
    | 35 => .inl
    | 36 => .frz [[some (.i .u8)]]
    | 37 => .inl
    | 38 => .frz [[some (.i .u8)]]
    | 39 => .frz []
    | 40 => .own [[none, some (.i .i64)]]
    | 41 => .own [[some (.i .i64)]]
    | 42 => .own [[some (.i .i64)]]
    | 43 => .frz []
    | 44 => .frz []
    | 45 => .frz []
    | 62 => .inl
    | 63 => .inl
    | 64 => .inl
    | 65 => .own [[some (.i .u8)]]
    | 66 => .own [[some (.i .u8)]]
    | 67 => .frz [[none, some (.i .i64)]]
    | 68 => .inl
    | 69 => .frz []
    | 70 => .frz []
    | 71 => .frz []
    | 72 => .own [[some (.i .i64)]]
    | 73 => .own [[some (.i .i64)]]
    | 74 => .own [[some (.i .i64)]]
    | 75 => .own [[some (.i .i64)]]
    | 76 => .frz []
    | 77 => .frz []
    | 83 => .own [[some (.i .i64)]]
    | 106 => .frz []
    | 107 => .frz []
    | 108 => .frz [[some (.i .i64)]]
    | 109 => .own [[some (.i .i64)]]
    | 110 => .inl
    | 111 => .frz []
    | 112 => .frz []
    | 113 => .own [[some (.i .i64)]]
    | 114 => .inl
    | 115 => .frz []
    | 132 => .frz []
    | _ => .inl
  args := fun f => match f with
    | 3 => [[some (.i .u8)]]
    | 6 => [[some (.i .u8)]]
    | 7 => [[some (.i .u8)]]
    | 8 => [[some (.i .u8)]]
    | 9 => [[some (.i .u8)]]
    | 10 => [[some (.i .u8)]]
    | 14 => [[some (.i .u8)], [some (.i .u8)]]
    | 15 => [[none, some (.i .i64)], [none, some (.i .i64)]]
    | 33 => [[none, some (.i .i64)]]
    | 38 => [[some (.i .u8)]]
    | 39 => [[some (.i .u8)]]
    | 40 => [[], [some (.i .i64)]]
    | 41 => [[some (.i .u8)]]
    | 42 => [[some (.i .u8)]]
    | 44 => [[some (.i .i64)]]
    | 45 => [[some (.i .i64)], [some (.i .i64)]]
    | 66 => [[some (.i .i64)]]
    | 67 => [[], [some (.i .i64)]]
    | 70 => [[some (.i .u8)]]
    | 72 => [[some (.i .i64)]]
    | 73 => [[some (.i .i64)], [some (.i .i64)]]
    | 74 => [[some (.i .i64)], [some (.i .i64)]]
    | 76 => [[some (.i .u8)]]
    | 77 => [[some (.i .i64)]]
    | 108 => [[some (.i .i64)]]
    | 109 => [[some (.i .i64)]]
    | 111 => [[some (.i .u8)]]
    | 113 => [[some (.i .i64)]]
    | 114 => [[some (.i .i64)]]
    | 132 => [[some (.i .u8)]]
    | _ => []
  nils := fun f => match f with
    | 6 => nil6
    | 7 => nil7
    | 8 => nil8
    | 10 => nil10
    | 30 => nil30
    | 32 => nil32
    | 33 => nil33
    | 36 => nil36
    | 38 => nil38
    | 41 => nil41
    | 42 => nil42
    | 65 => nil65
    | 66 => nil66
    | 68 => nil68
    | 73 => nil73
    | 74 => nil74
    | 75 => nil75
    | 83 => nil83
    | 113 => nil113
    | 114 => nil114
    | _ => fun _ => none
  gc := fun f => gcL.contains f
  ali := fun f => aliL.contains f
  glob := fun _ => none
@[simp] theorem k_cf : kn.cf = cf := rfl
@[simp] theorem c_emt (t : TypeId) : cf.emt t = (t == 22) := rfl
@[simp] theorem c_papp (a : List Operand) : cf.papp a.toArray = isTT 36 39 a := rfl
/-! 3: laws.FnPlains -/
@[simp] theorem c_keep3 (r : Nat) : cf.keep 3 r = tab3.getD r [] := rfl
@[simp] theorem c_pure3 : cf.pure 3 = true := rfl
@[simp] theorem c_pack3 : cf.pack 3 = .whole := rfl
@[simp] theorem c_wary3 (r : Nat) : cf.wary 3 r = false := rfl
@[simp] theorem c_clone3 : cf.clone 3 = none := rfl
@[simp] theorem k_out3 : kn.out 3 = .frz [] := rfl
@[simp] theorem k_args3 : kn.args 3 = [[some (.i .u8)]] := rfl
@[simp] theorem k_nils3 : kn.nils 3 = fun _ => none := rfl
@[simp] theorem k_gc3 : kn.gc 3 = false := rfl
@[simp] theorem k_ali3 : kn.ali 3 = false := rfl
/-! 6: spec.DrawPlain -/
@[simp] theorem c_keep6 (r : Nat) : cf.keep 6 r = tab6.getD r [] := rfl
@[simp] theorem c_pure6 : cf.pure 6 = true := rfl
@[simp] theorem c_pack6 : cf.pack 6 = .whole := rfl
@[simp] theorem c_wary6 (r : Nat) : cf.wary 6 r = false := rfl
@[simp] theorem c_clone6 : cf.clone 6 = none := rfl
@[simp] theorem k_out6 : kn.out 6 = .frz [[some (.i .u8)]] := rfl
@[simp] theorem k_args6 : kn.args 6 = [[some (.i .u8)]] := rfl
@[simp] theorem k_nils6 : kn.nils 6 = nil6 := rfl
@[simp] theorem k_gc6 : kn.gc 6 = false := rfl
@[simp] theorem k_ali6 : kn.ali 6 = false := rfl
/-! 7: impl.Plain -/
@[simp] theorem c_keep7 (r : Nat) : cf.keep 7 r = tab7.getD r [] := rfl
@[simp] theorem c_pure7 : cf.pure 7 = true := rfl
@[simp] theorem c_pack7 : cf.pack 7 = .whole := rfl
@[simp] theorem c_wary7 (r : Nat) : cf.wary 7 r = false := rfl
@[simp] theorem c_clone7 : cf.clone 7 = none := rfl
@[simp] theorem k_out7 : kn.out 7 = .own [[some (.i .u8)]] := rfl
@[simp] theorem k_args7 : kn.args 7 = [[some (.i .u8)]] := rfl
@[simp] theorem k_nils7 : kn.nils 7 = nil7 := rfl
@[simp] theorem k_gc7 : kn.gc 7 = true := rfl
@[simp] theorem k_ali7 : kn.ali 7 = false := rfl
/-! 8: spec.DrawWholeRead -/
@[simp] theorem c_keep8 (r : Nat) : cf.keep 8 r = tab8.getD r [] := rfl
@[simp] theorem c_pure8 : cf.pure 8 = true := rfl
@[simp] theorem c_pack8 : cf.pack 8 = .whole := rfl
@[simp] theorem c_wary8 (r : Nat) : cf.wary 8 r = false := rfl
@[simp] theorem c_clone8 : cf.clone 8 = none := rfl
@[simp] theorem k_out8 : kn.out 8 = .frz [[some (.i .u8)]] := rfl
@[simp] theorem k_args8 : kn.args 8 = [[some (.i .u8)]] := rfl
@[simp] theorem k_nils8 : kn.nils 8 = nil8 := rfl
@[simp] theorem k_gc8 : kn.gc 8 = false := rfl
@[simp] theorem k_ali8 : kn.ali 8 = false := rfl
/-! 9: impl.WholeRead -/
@[simp] theorem c_keep9 (r : Nat) : cf.keep 9 r = tab9.getD r [] := rfl
@[simp] theorem c_pure9 : cf.pure 9 = true := rfl
@[simp] theorem c_pack9 : cf.pack 9 = .whole := rfl
@[simp] theorem c_wary9 (r : Nat) : cf.wary 9 r = false := rfl
@[simp] theorem c_clone9 : cf.clone 9 = none := rfl
@[simp] theorem k_out9 : kn.out 9 = .own [[none, some (.i .i64)]] := rfl
@[simp] theorem k_args9 : kn.args 9 = [[some (.i .u8)]] := rfl
@[simp] theorem k_nils9 : kn.nils 9 = fun _ => none := rfl
@[simp] theorem k_gc9 : kn.gc 9 = true := rfl
@[simp] theorem k_ali9 : kn.ali 9 = false := rfl
/-! 10: impl.Runes -/
@[simp] theorem c_keep10 (r : Nat) : cf.keep 10 r = tab10.getD r [] := rfl
@[simp] theorem c_pure10 : cf.pure 10 = true := rfl
@[simp] theorem c_pack10 : cf.pack 10 = .whole := rfl
@[simp] theorem c_wary10 (r : Nat) : cf.wary 10 r = false := rfl
@[simp] theorem c_clone10 : cf.clone 10 = none := rfl
@[simp] theorem k_out10 : kn.out 10 = .own [[some (.i .i64)]] := rfl
@[simp] theorem k_args10 : kn.args 10 = [[some (.i .u8)]] := rfl
@[simp] theorem k_nils10 : kn.nils 10 = nil10 := rfl
@[simp] theorem k_gc10 : kn.gc 10 = true := rfl
@[simp] theorem k_ali10 : kn.ali 10 = false := rfl
/-! 11: impl.DigitOf -/
@[simp] theorem c_keep11 (r : Nat) : cf.keep 11 r = tab11.getD r [] := rfl
@[simp] theorem c_pure11 : cf.pure 11 = true := rfl
@[simp] theorem c_pack11 : cf.pack 11 = .whole := rfl
@[simp] theorem c_wary11 (r : Nat) : cf.wary 11 r = false := rfl
@[simp] theorem c_clone11 : cf.clone 11 = none := rfl
@[simp] theorem k_out11 : kn.out 11 = .frz [] := rfl
@[simp] theorem k_args11 : kn.args 11 = [] := rfl
@[simp] theorem k_nils11 : kn.nils 11 = fun _ => none := rfl
@[simp] theorem k_gc11 : kn.gc 11 = true := rfl
@[simp] theorem k_ali11 : kn.ali 11 = false := rfl
/-! 12: impl.IsBlank -/
@[simp] theorem c_keep12 (r : Nat) : cf.keep 12 r = tab12.getD r [] := rfl
@[simp] theorem c_pure12 : cf.pure 12 = true := rfl
@[simp] theorem c_pack12 : cf.pack 12 = .whole := rfl
@[simp] theorem c_wary12 (r : Nat) : cf.wary 12 r = false := rfl
@[simp] theorem c_clone12 : cf.clone 12 = none := rfl
@[simp] theorem k_out12 : kn.out 12 = .frz [] := rfl
@[simp] theorem k_args12 : kn.args 12 = [] := rfl
@[simp] theorem k_nils12 : kn.nils 12 = fun _ => none := rfl
@[simp] theorem k_gc12 : kn.gc 12 = true := rfl
@[simp] theorem k_ali12 : kn.ali 12 = false := rfl
/-! 13: impl.SignOf -/
@[simp] theorem c_keep13 (r : Nat) : cf.keep 13 r = tab13.getD r [] := rfl
@[simp] theorem c_pure13 : cf.pure 13 = true := rfl
@[simp] theorem c_pack13 : cf.pack 13 = .whole := rfl
@[simp] theorem c_wary13 (r : Nat) : cf.wary 13 r = false := rfl
@[simp] theorem c_clone13 : cf.clone 13 = none := rfl
@[simp] theorem k_out13 : kn.out 13 = .frz [] := rfl
@[simp] theorem k_args13 : kn.args 13 = [] := rfl
@[simp] theorem k_nils13 : kn.nils 13 = fun _ => none := rfl
@[simp] theorem k_gc13 : kn.gc 13 = true := rfl
@[simp] theorem k_ali13 : kn.ali 13 = false := rfl
/-! 14: laws.sameBytes -/
@[simp] theorem c_keep14 (r : Nat) : cf.keep 14 r = tab14.getD r [] := rfl
@[simp] theorem c_pure14 : cf.pure 14 = true := rfl
@[simp] theorem c_pack14 : cf.pack 14 = .whole := rfl
@[simp] theorem c_wary14 (r : Nat) : cf.wary 14 r = false := rfl
@[simp] theorem c_clone14 : cf.clone 14 = none := rfl
@[simp] theorem k_out14 : kn.out 14 = .frz [] := rfl
@[simp] theorem k_args14 : kn.args 14 = [[some (.i .u8)], [some (.i .u8)]] := rfl
@[simp] theorem k_nils14 : kn.nils 14 = fun _ => none := rfl
@[simp] theorem k_gc14 : kn.gc 14 = true := rfl
@[simp] theorem k_ali14 : kn.ali 14 = false := rfl
/-! 15: laws.sameWhole -/
@[simp] theorem c_keep15 (r : Nat) : cf.keep 15 r = tab15.getD r [] := rfl
@[simp] theorem c_pure15 : cf.pure 15 = true := rfl
@[simp] theorem c_pack15 : cf.pack 15 = .whole := rfl
@[simp] theorem c_wary15 (r : Nat) : cf.wary 15 r = false := rfl
@[simp] theorem c_clone15 : cf.clone 15 = none := rfl
@[simp] theorem k_out15 : kn.out 15 = .frz [] := rfl
@[simp] theorem k_args15 : kn.args 15 = [[none, some (.i .i64)], [none, some (.i .i64)]] := rfl
@[simp] theorem k_nils15 : kn.nils 15 = fun _ => none := rfl
@[simp] theorem k_gc15 : kn.gc 15 = true := rfl
@[simp] theorem k_ali15 : kn.ali 15 = false := rfl
/-! 30: spec.l1draw -/
@[simp] theorem c_keep30 (r : Nat) : cf.keep 30 r = tab30.getD r [] := rfl
@[simp] theorem c_pure30 : cf.pure 30 = false := rfl
@[simp] theorem c_pack30 : cf.pack 30 = .whole := rfl
@[simp] theorem c_wary30 (r : Nat) : cf.wary 30 r = false := rfl
@[simp] theorem c_clone30 : cf.clone 30 = none := rfl
@[simp] theorem k_out30 : kn.out 30 = .inl := rfl
@[simp] theorem k_args30 : kn.args 30 = [] := rfl
@[simp] theorem k_nils30 : kn.nils 30 = nil30 := rfl
@[simp] theorem k_gc30 : kn.gc 30 = false := rfl
@[simp] theorem k_ali30 : kn.ali 30 = false := rfl
/-! 31: spec.l1New -/
@[simp] theorem c_keep31 (r : Nat) : cf.keep 31 r = tab31.getD r [] := rfl
@[simp] theorem c_pure31 : cf.pure 31 = false := rfl
@[simp] theorem c_pack31 : cf.pack 31 = .whole := rfl
@[simp] theorem c_wary31 (r : Nat) : cf.wary 31 r = false := rfl
@[simp] theorem c_clone31 : cf.clone 31 = none := rfl
@[simp] theorem k_out31 : kn.out 31 = .inl := rfl
@[simp] theorem k_args31 : kn.args 31 = [] := rfl
@[simp] theorem k_nils31 : kn.nils 31 = fun _ => none := rfl
@[simp] theorem k_gc31 : kn.gc 31 = false := rfl
@[simp] theorem k_ali31 : kn.ali 31 = false := rfl
/-! 32: impl.plainOf -/
@[simp] theorem c_keep32 (r : Nat) : cf.keep 32 r = tab32.getD r [] := rfl
@[simp] theorem c_pure32 : cf.pure 32 = true := rfl
@[simp] theorem c_pack32 : cf.pack 32 = .whole := rfl
@[simp] theorem c_wary32 (r : Nat) : cf.wary 32 r = false := rfl
@[simp] theorem c_clone32 : cf.clone 32 = none := rfl
@[simp] theorem k_out32 : kn.out 32 = .own [[some (.i .u8)]] := rfl
@[simp] theorem k_args32 : kn.args 32 = [] := rfl
@[simp] theorem k_nils32 : kn.nils 32 = nil32 := rfl
@[simp] theorem k_gc32 : kn.gc 32 = true := rfl
@[simp] theorem k_ali32 : kn.ali 32 = false := rfl
/-! 33: spec.l3text -/
@[simp] theorem c_keep33 (r : Nat) : cf.keep 33 r = tab33.getD r [] := rfl
@[simp] theorem c_pure33 : cf.pure 33 = true := rfl
@[simp] theorem c_pack33 : cf.pack 33 = .whole := rfl
@[simp] theorem c_wary33 (r : Nat) : cf.wary 33 r = false := rfl
@[simp] theorem c_clone33 : cf.clone 33 = none := rfl
@[simp] theorem k_out33 : kn.out 33 = .frz [[some (.i .u8)]] := rfl
@[simp] theorem k_args33 : kn.args 33 = [[none, some (.i .i64)]] := rfl
@[simp] theorem k_nils33 : kn.nils 33 = nil33 := rfl
@[simp] theorem k_gc33 : kn.gc 33 = true := rfl
@[simp] theorem k_ali33 : kn.ali 33 = false := rfl
/-! 34: spec.l3draw -/
@[simp] theorem c_keep34 (r : Nat) : cf.keep 34 r = tab34.getD r [] := rfl
@[simp] theorem c_pure34 : cf.pure 34 = false := rfl
@[simp] theorem c_pack34 : cf.pack 34 = .whole := rfl
@[simp] theorem c_wary34 (r : Nat) : cf.wary 34 r = false := rfl
@[simp] theorem c_clone34 : cf.clone 34 = none := rfl
@[simp] theorem k_out34 : kn.out 34 = .inl := rfl
@[simp] theorem k_args34 : kn.args 34 = [] := rfl
@[simp] theorem k_nils34 : kn.nils 34 = fun _ => none := rfl
@[simp] theorem k_gc34 : kn.gc 34 = false := rfl
@[simp] theorem k_ali34 : kn.ali 34 = false := rfl
/-! 35: spec.l1PickInt -/
@[simp] theorem c_keep35 (r : Nat) : cf.keep 35 r = tab35.getD r [] := rfl
@[simp] theorem c_pure35 : cf.pure 35 = false := rfl
@[simp] theorem c_pack35 : cf.pack 35 = .whole := rfl
@[simp] theorem c_wary35 (r : Nat) : cf.wary 35 r = false := rfl
@[simp] theorem c_clone35 : cf.clone 35 = none := rfl
@[simp] theorem k_out35 : kn.out 35 = .inl := rfl
@[simp] theorem k_args35 : kn.args 35 = [] := rfl
@[simp] theorem k_nils35 : kn.nils 35 = fun _ => none := rfl
@[simp] theorem k_gc35 : kn.gc 35 = false := rfl
@[simp] theorem k_ali35 : kn.ali 35 = false := rfl
/-! 36: spec.RuneBytes -/
@[simp] theorem c_keep36 (r : Nat) : cf.keep 36 r = tab36.getD r [] := rfl
@[simp] theorem c_pure36 : cf.pure 36 = true := rfl
@[simp] theorem c_pack36 : cf.pack 36 = .whole := rfl
@[simp] theorem c_wary36 (r : Nat) : cf.wary 36 r = false := rfl
@[simp] theorem c_clone36 : cf.clone 36 = none := rfl
@[simp] theorem k_out36 : kn.out 36 = .frz [[some (.i .u8)]] := rfl
@[simp] theorem k_args36 : kn.args 36 = [] := rfl
@[simp] theorem k_nils36 : kn.nils 36 = nil36 := rfl
@[simp] theorem k_gc36 : kn.gc 36 = true := rfl
@[simp] theorem k_ali36 : kn.ali 36 = false := rfl
/-! 37: spec.l1Once -/
@[simp] theorem c_keep37 (r : Nat) : cf.keep 37 r = tab37.getD r [] := rfl
@[simp] theorem c_pure37 : cf.pure 37 = false := rfl
@[simp] theorem c_pack37 : cf.pack 37 = .whole := rfl
@[simp] theorem c_wary37 (r : Nat) : cf.wary 37 r = false := rfl
@[simp] theorem c_clone37 : cf.clone 37 = none := rfl
@[simp] theorem k_out37 : kn.out 37 = .inl := rfl
@[simp] theorem k_args37 : kn.args 37 = [] := rfl
@[simp] theorem k_nils37 : kn.nils 37 = fun _ => none := rfl
@[simp] theorem k_gc37 : kn.gc 37 = false := rfl
@[simp] theorem k_ali37 : kn.ali 37 = false := rfl
/-! 38: impl.cutSign -/
@[simp] theorem c_keep38 (r : Nat) : cf.keep 38 r = tab38.getD r [] := rfl
@[simp] theorem c_pure38 : cf.pure 38 = true := rfl
@[simp] theorem c_pack38 : cf.pack 38 = .whole := rfl
@[simp] theorem c_wary38 (r : Nat) : cf.wary 38 r = false := rfl
@[simp] theorem c_clone38 : cf.clone 38 = none := rfl
@[simp] theorem k_out38 : kn.out 38 = .frz [[some (.i .u8)]] := rfl
@[simp] theorem k_args38 : kn.args 38 = [[some (.i .u8)]] := rfl
@[simp] theorem k_nils38 : kn.nils 38 = nil38 := rfl
@[simp] theorem k_gc38 : kn.gc 38 = true := rfl
@[simp] theorem k_ali38 : kn.ali 38 = false := rfl
/-! 39: impl.areDigits -/
@[simp] theorem c_keep39 (r : Nat) : cf.keep 39 r = tab39.getD r [] := rfl
@[simp] theorem c_pure39 : cf.pure 39 = true := rfl
@[simp] theorem c_pack39 : cf.pack 39 = .whole := rfl
@[simp] theorem c_wary39 (r : Nat) : cf.wary 39 r = false := rfl
@[simp] theorem c_clone39 : cf.clone 39 = none := rfl
@[simp] theorem k_out39 : kn.out 39 = .frz [] := rfl
@[simp] theorem k_args39 : kn.args 39 = [[some (.i .u8)]] := rfl
@[simp] theorem k_nils39 : kn.nils 39 = fun _ => none := rfl
@[simp] theorem k_gc39 : kn.gc 39 = true := rfl
@[simp] theorem k_ali39 : kn.ali 39 = false := rfl
/-! 40: impl.wholeOf -/
@[simp] theorem c_keep40 (r : Nat) : cf.keep 40 r = tab40.getD r [] := rfl
@[simp] theorem c_pure40 : cf.pure 40 = true := rfl
@[simp] theorem c_pack40 : cf.pack 40 = .whole := rfl
@[simp] theorem c_wary40 (r : Nat) : cf.wary 40 r = false := rfl
@[simp] theorem c_clone40 : cf.clone 40 = none := rfl
@[simp] theorem k_out40 : kn.out 40 = .own [[none, some (.i .i64)]] := rfl
@[simp] theorem k_args40 : kn.args 40 = [[], [some (.i .i64)]] := rfl
@[simp] theorem k_nils40 : kn.nils 40 = fun _ => none := rfl
@[simp] theorem k_gc40 : kn.gc 40 = true := rfl
@[simp] theorem k_ali40 : kn.ali 40 = false := rfl
/-! 41: impl.fromDigits -/
@[simp] theorem c_keep41 (r : Nat) : cf.keep 41 r = tab41.getD r [] := rfl
@[simp] theorem c_pure41 : cf.pure 41 = true := rfl
@[simp] theorem c_pack41 : cf.pack 41 = .whole := rfl
@[simp] theorem c_wary41 (r : Nat) : cf.wary 41 r = false := rfl
@[simp] theorem c_clone41 : cf.clone 41 = none := rfl
@[simp] theorem k_out41 : kn.out 41 = .own [[some (.i .i64)]] := rfl
@[simp] theorem k_args41 : kn.args 41 = [[some (.i .u8)]] := rfl
@[simp] theorem k_nils41 : kn.nils 41 = nil41 := rfl
@[simp] theorem k_gc41 : kn.gc 41 = true := rfl
@[simp] theorem k_ali41 : kn.ali 41 = false := rfl
/-! 42: impl.runesOf -/
@[simp] theorem c_keep42 (r : Nat) : cf.keep 42 r = tab42.getD r [] := rfl
@[simp] theorem c_pure42 : cf.pure 42 = true := rfl
@[simp] theorem c_pack42 : cf.pack 42 = .whole := rfl
@[simp] theorem c_wary42 (r : Nat) : cf.wary 42 r = false := rfl
@[simp] theorem c_clone42 : cf.clone 42 = none := rfl
@[simp] theorem k_out42 : kn.out 42 = .own [[some (.i .i64)]] := rfl
@[simp] theorem k_args42 : kn.args 42 = [[some (.i .u8)]] := rfl
@[simp] theorem k_nils42 : kn.nils 42 = nil42 := rfl
@[simp] theorem k_gc42 : kn.gc 42 = true := rfl
@[simp] theorem k_ali42 : kn.ali 42 = false := rfl
/-! 43: impl.within -/
@[simp] theorem c_keep43 (r : Nat) : cf.keep 43 r = tab43.getD r [] := rfl
@[simp] theorem c_pure43 : cf.pure 43 = true := rfl
@[simp] theorem c_pack43 : cf.pack 43 = .whole := rfl
@[simp] theorem c_wary43 (r : Nat) : cf.wary 43 r = false := rfl
@[simp] theorem c_clone43 : cf.clone 43 = none := rfl
@[simp] theorem k_out43 : kn.out 43 = .frz [] := rfl
@[simp] theorem k_args43 : kn.args 43 = [] := rfl
@[simp] theorem k_nils43 : kn.nils 43 = fun _ => none := rfl
@[simp] theorem k_gc43 : kn.gc 43 = true := rfl
@[simp] theorem k_ali43 : kn.ali 43 = false := rfl
/-! 44: slices.Contains[[]int,int] -/
@[simp] theorem c_keep44 (r : Nat) : cf.keep 44 r = tab44.getD r [] := rfl
@[simp] theorem c_pure44 : cf.pure 44 = true := rfl
@[simp] theorem c_pack44 : cf.pack 44 = .whole := rfl
@[simp] theorem c_wary44 (r : Nat) : cf.wary 44 r = false := rfl
@[simp] theorem c_clone44 : cf.clone 44 = none := rfl
@[simp] theorem k_out44 : kn.out 44 = .frz [] := rfl
@[simp] theorem k_args44 : kn.args 44 = [[some (.i .i64)]] := rfl
@[simp] theorem k_nils44 : kn.nils 44 = fun _ => none := rfl
@[simp] theorem k_gc44 : kn.gc 44 = true := rfl
@[simp] theorem k_ali44 : kn.ali 44 = false := rfl
/-! 45: laws.sameNat -/
@[simp] theorem c_keep45 (r : Nat) : cf.keep 45 r = tab45.getD r [] := rfl
@[simp] theorem c_pure45 : cf.pure 45 = true := rfl
@[simp] theorem c_pack45 : cf.pack 45 = .whole := rfl
@[simp] theorem c_wary45 (r : Nat) : cf.wary 45 r = false := rfl
@[simp] theorem c_clone45 : cf.clone 45 = none := rfl
@[simp] theorem k_out45 : kn.out 45 = .frz [] := rfl
@[simp] theorem k_args45 : kn.args 45 = [[some (.i .i64)], [some (.i .i64)]] := rfl
@[simp] theorem k_nils45 : kn.nils 45 = fun _ => none := rfl
@[simp] theorem k_gc45 : kn.gc 45 = true := rfl
@[simp] theorem k_ali45 : kn.ali 45 = false := rfl
/-! 62: spec.l1Below -/
@[simp] theorem c_keep62 (r : Nat) : cf.keep 62 r = tab62.getD r [] := rfl
@[simp] theorem c_pure62 : cf.pure 62 = false := rfl
@[simp] theorem c_pack62 : cf.pack 62 = .whole := rfl
@[simp] theorem c_wary62 (r : Nat) : cf.wary 62 r = false := rfl
@[simp] theorem c_clone62 : cf.clone 62 = none := rfl
@[simp] theorem k_out62 : kn.out 62 = .inl := rfl
@[simp] theorem k_args62 : kn.args 62 = [] := rfl
@[simp] theorem k_nils62 : kn.nils 62 = fun _ => none := rfl
@[simp] theorem k_gc62 : kn.gc 62 = false := rfl
@[simp] theorem k_ali62 : kn.ali 62 = false := rfl
/-! 63: spec.l1drawRune -/
@[simp] theorem c_keep63 (r : Nat) : cf.keep 63 r = tab63.getD r [] := rfl
@[simp] theorem c_pure63 : cf.pure 63 = false := rfl
@[simp] theorem c_pack63 : cf.pack 63 = .whole := rfl
@[simp] theorem c_wary63 (r : Nat) : cf.wary 63 r = false := rfl
@[simp] theorem c_clone63 : cf.clone 63 = none := rfl
@[simp] theorem k_out63 : kn.out 63 = .inl := rfl
@[simp] theorem k_args63 : kn.args 63 = [] := rfl
@[simp] theorem k_nils63 : kn.nils 63 = fun _ => none := rfl
@[simp] theorem k_gc63 : kn.gc 63 = false := rfl
@[simp] theorem k_ali63 : kn.ali 63 = false := rfl
/-! 64: spec.l1Byte -/
@[simp] theorem c_keep64 (r : Nat) : cf.keep 64 r = tab64.getD r [] := rfl
@[simp] theorem c_pure64 : cf.pure 64 = false := rfl
@[simp] theorem c_pack64 : cf.pack 64 = .whole := rfl
@[simp] theorem c_wary64 (r : Nat) : cf.wary 64 r = false := rfl
@[simp] theorem c_clone64 : cf.clone 64 = none := rfl
@[simp] theorem k_out64 : kn.out 64 = .inl := rfl
@[simp] theorem k_args64 : kn.args 64 = [] := rfl
@[simp] theorem k_nils64 : kn.nils 64 = fun _ => none := rfl
@[simp] theorem k_gc64 : kn.gc 64 = false := rfl
@[simp] theorem k_ali64 : kn.ali 64 = false := rfl
/-! 65: impl.RuneBytes -/
@[simp] theorem c_keep65 (r : Nat) : cf.keep 65 r = tab65.getD r [] := rfl
@[simp] theorem c_pure65 : cf.pure 65 = true := rfl
@[simp] theorem c_pack65 : cf.pack 65 = .whole := rfl
@[simp] theorem c_wary65 (r : Nat) : cf.wary 65 r = false := rfl
@[simp] theorem c_clone65 : cf.clone 65 = none := rfl
@[simp] theorem k_out65 : kn.out 65 = .own [[some (.i .u8)]] := rfl
@[simp] theorem k_args65 : kn.args 65 = [] := rfl
@[simp] theorem k_nils65 : kn.nils 65 = nil65 := rfl
@[simp] theorem k_gc65 : kn.gc 65 = true := rfl
@[simp] theorem k_ali65 : kn.ali 65 = false := rfl
/-! 66: spec.l2text -/
@[simp] theorem c_keep66 (r : Nat) : cf.keep 66 r = tab66.getD r [] := rfl
@[simp] theorem c_pure66 : cf.pure 66 = true := rfl
@[simp] theorem c_pack66 : cf.pack 66 = .whole := rfl
@[simp] theorem c_wary66 (r : Nat) : cf.wary 66 r = false := rfl
@[simp] theorem c_clone66 : cf.clone 66 = none := rfl
@[simp] theorem k_out66 : kn.out 66 = .own [[some (.i .u8)]] := rfl
@[simp] theorem k_args66 : kn.args 66 = [[some (.i .i64)]] := rfl
@[simp] theorem k_nils66 : kn.nils 66 = nil66 := rfl
@[simp] theorem k_gc66 : kn.gc 66 = true := rfl
@[simp] theorem k_ali66 : kn.ali 66 = false := rfl
/-! 67: spec.l3make -/
@[simp] theorem c_keep67 (r : Nat) : cf.keep 67 r = tab67.getD r [] := rfl
@[simp] theorem c_pure67 : cf.pure 67 = true := rfl
@[simp] theorem c_pack67 : cf.pack 67 = .whole := rfl
@[simp] theorem c_wary67 (r : Nat) : cf.wary 67 r = false := rfl
@[simp] theorem c_clone67 : cf.clone 67 = none := rfl
@[simp] theorem k_out67 : kn.out 67 = .frz [[none, some (.i .i64)]] := rfl
@[simp] theorem k_args67 : kn.args 67 = [[], [some (.i .i64)]] := rfl
@[simp] theorem k_nils67 : kn.nils 67 = fun _ => none := rfl
@[simp] theorem k_gc67 : kn.gc 67 = true := rfl
@[simp] theorem k_ali67 : kn.ali 67 = false := rfl
/-! 68: spec.l2draw -/
@[simp] theorem c_keep68 (r : Nat) : cf.keep 68 r = tab68.getD r [] := rfl
@[simp] theorem c_pure68 : cf.pure 68 = false := rfl
@[simp] theorem c_pack68 : cf.pack 68 = .whole := rfl
@[simp] theorem c_wary68 (r : Nat) : cf.wary 68 r = false := rfl
@[simp] theorem c_clone68 : cf.clone 68 = none := rfl
@[simp] theorem k_out68 : kn.out 68 = .inl := rfl
@[simp] theorem k_args68 : kn.args 68 = [] := rfl
@[simp] theorem k_nils68 : kn.nils 68 = nil68 := rfl
@[simp] theorem k_gc68 : kn.gc 68 = false := rfl
@[simp] theorem k_ali68 : kn.ali 68 = false := rfl
/-! 69: spec.l1may -/
@[simp] theorem c_keep69 (r : Nat) : cf.keep 69 r = tab69.getD r [] := rfl
@[simp] theorem c_pure69 : cf.pure 69 = true := rfl
@[simp] theorem c_pack69 : cf.pack 69 = .whole := rfl
@[simp] theorem c_wary69 (r : Nat) : cf.wary 69 r = false := rfl
@[simp] theorem c_clone69 : cf.clone 69 = none := rfl
@[simp] theorem k_out69 : kn.out 69 = .frz [] := rfl
@[simp] theorem k_args69 : kn.args 69 = [] := rfl
@[simp] theorem k_nils69 : kn.nils 69 = fun _ => none := rfl
@[simp] theorem k_gc69 : kn.gc 69 = true := rfl
@[simp] theorem k_ali69 : kn.ali 69 = false := rfl
/-! 70: impl.areAll[byte] -/
@[simp] theorem c_keep70 (r : Nat) : cf.keep 70 r = tab70.getD r [] := rfl
@[simp] theorem c_pure70 : cf.pure 70 = true := rfl
@[simp] theorem c_pack70 : cf.pack 70 = .whole := rfl
@[simp] theorem c_wary70 (r : Nat) : cf.wary 70 r = false := rfl
@[simp] theorem c_clone70 : cf.clone 70 = none := rfl
@[simp] theorem k_out70 : kn.out 70 = .frz [] := rfl
@[simp] theorem k_args70 : kn.args 70 = [[some (.i .u8)]] := rfl
@[simp] theorem k_nils70 : kn.nils 70 = fun _ => none := rfl
@[simp] theorem k_gc70 : kn.gc 70 = true := rfl
@[simp] theorem k_ali70 : kn.ali 70 = false := rfl
/-! 71: impl.areDigits$1 -/
@[simp] theorem c_keep71 (r : Nat) : cf.keep 71 r = tab71.getD r [] := rfl
@[simp] theorem c_pure71 : cf.pure 71 = true := rfl
@[simp] theorem c_pack71 : cf.pack 71 = .whole := rfl
@[simp] theorem c_wary71 (r : Nat) : cf.wary 71 r = false := rfl
@[simp] theorem c_clone71 : cf.clone 71 = none := rfl
@[simp] theorem k_out71 : kn.out 71 = .frz [] := rfl
@[simp] theorem k_args71 : kn.args 71 = [] := rfl
@[simp] theorem k_nils71 : kn.nils 71 = fun _ => none := rfl
@[simp] theorem k_gc71 : kn.gc 71 = true := rfl
@[simp] theorem k_ali71 : kn.ali 71 = false := rfl
/-! 72: impl.natOf -/
@[simp] theorem c_keep72 (r : Nat) : cf.keep 72 r = tab72.getD r [] := rfl
@[simp] theorem c_pure72 : cf.pure 72 = true := rfl
@[simp] theorem c_pack72 : cf.pack 72 = .whole := rfl
@[simp] theorem c_wary72 (r : Nat) : cf.wary 72 r = false := rfl
@[simp] theorem c_clone72 : cf.clone 72 = none := rfl
@[simp] theorem k_out72 : kn.out 72 = .own [[some (.i .i64)]] := rfl
@[simp] theorem k_args72 : kn.args 72 = [[some (.i .i64)]] := rfl
@[simp] theorem k_nils72 : kn.nils 72 = fun _ => none := rfl
@[simp] theorem k_gc72 : kn.gc 72 = true := rfl
@[simp] theorem k_ali72 : kn.ali 72 = false := rfl
/-! 73: impl.plus -/
@[simp] theorem c_keep73 (r : Nat) : cf.keep 73 r = tab73.getD r [] := rfl
@[simp] theorem c_pure73 : cf.pure 73 = true := rfl
@[simp] theorem c_pack73 : cf.pack 73 = .whole := rfl
@[simp] theorem c_wary73 (r : Nat) : cf.wary 73 r = false := rfl
@[simp] theorem c_clone73 : cf.clone 73 = none := rfl
@[simp] theorem k_out73 : kn.out 73 = .own [[some (.i .i64)]] := rfl
@[simp] theorem k_args73 : kn.args 73 = [[some (.i .i64)], [some (.i .i64)]] := rfl
@[simp] theorem k_nils73 : kn.nils 73 = nil73 := rfl
@[simp] theorem k_gc73 : kn.gc 73 = true := rfl
@[simp] theorem k_ali73 : kn.ali 73 = false := rfl
/-! 74: impl.times -/
@[simp] theorem c_keep74 (r : Nat) : cf.keep 74 r = tab74.getD r [] := rfl
@[simp] theorem c_pure74 : cf.pure 74 = true := rfl
@[simp] theorem c_pack74 : cf.pack 74 = .whole := rfl
@[simp] theorem c_wary74 (r : Nat) : cf.wary 74 r = false := rfl
@[simp] theorem c_clone74 : cf.clone 74 = none := rfl
@[simp] theorem k_out74 : kn.out 74 = .own [[some (.i .i64)]] := rfl
@[simp] theorem k_args74 : kn.args 74 = [[some (.i .i64)], [some (.i .i64)]] := rfl
@[simp] theorem k_nils74 : kn.nils 74 = nil74 := rfl
@[simp] theorem k_gc74 : kn.gc 74 = true := rfl
@[simp] theorem k_ali74 : kn.ali 74 = false := rfl
/-! 75: impl.small -/
@[simp] theorem c_keep75 (r : Nat) : cf.keep 75 r = tab75.getD r [] := rfl
@[simp] theorem c_pure75 : cf.pure 75 = true := rfl
@[simp] theorem c_pack75 : cf.pack 75 = .whole := rfl
@[simp] theorem c_wary75 (r : Nat) : cf.wary 75 r = false := rfl
@[simp] theorem c_clone75 : cf.clone 75 = none := rfl
@[simp] theorem k_out75 : kn.out 75 = .own [[some (.i .i64)]] := rfl
@[simp] theorem k_args75 : kn.args 75 = [] := rfl
@[simp] theorem k_nils75 : kn.nils 75 = nil75 := rfl
@[simp] theorem k_gc75 : kn.gc 75 = true := rfl
@[simp] theorem k_ali75 : kn.ali 75 = false := rfl
/-! 76: impl.runeAt -/
@[simp] theorem c_keep76 (r : Nat) : cf.keep 76 r = tab76.getD r [] := rfl
@[simp] theorem c_pure76 : cf.pure 76 = true := rfl
@[simp] theorem c_pack76 : cf.pack 76 = .whole := rfl
@[simp] theorem c_wary76 (r : Nat) : cf.wary 76 r = false := rfl
@[simp] theorem c_clone76 : cf.clone 76 = none := rfl
@[simp] theorem k_out76 : kn.out 76 = .frz [] := rfl
@[simp] theorem k_args76 : kn.args 76 = [[some (.i .u8)]] := rfl
@[simp] theorem k_nils76 : kn.nils 76 = fun _ => none := rfl
@[simp] theorem k_gc76 : kn.gc 76 = true := rfl
@[simp] theorem k_ali76 : kn.ali 76 = false := rfl
/-! 77: slices.Index[[]int,int] -/
@[simp] theorem c_keep77 (r : Nat) : cf.keep 77 r = tab77.getD r [] := rfl
@[simp] theorem c_pure77 : cf.pure 77 = true := rfl
@[simp] theorem c_pack77 : cf.pack 77 = .whole := rfl
@[simp] theorem c_wary77 (r : Nat) : cf.wary 77 r = false := rfl
@[simp] theorem c_clone77 : cf.clone 77 = none := rfl
@[simp] theorem k_out77 : kn.out 77 = .frz [] := rfl
@[simp] theorem k_args77 : kn.args 77 = [[some (.i .i64)]] := rfl
@[simp] theorem k_nils77 : kn.nils 77 = fun _ => none := rfl
@[simp] theorem k_gc77 : kn.gc 77 = true := rfl
@[simp] theorem k_ali77 : kn.ali 77 = false := rfl
/-! 83: spec.l2of -/
@[simp] theorem c_keep83 (r : Nat) : cf.keep 83 r = tab83.getD r [] := rfl
@[simp] theorem c_pure83 : cf.pure 83 = true := rfl
@[simp] theorem c_pack83 : cf.pack 83 = .whole := rfl
@[simp] theorem c_wary83 (r : Nat) : cf.wary 83 r = false := rfl
@[simp] theorem c_clone83 : cf.clone 83 = none := rfl
@[simp] theorem k_out83 : kn.out 83 = .own [[some (.i .i64)]] := rfl
@[simp] theorem k_args83 : kn.args 83 = [] := rfl
@[simp] theorem k_nils83 : kn.nils 83 = nil83 := rfl
@[simp] theorem k_gc83 : kn.gc 83 = true := rfl
@[simp] theorem k_ali83 : kn.ali 83 = false := rfl
/-! 106: impl.isPoint -/
@[simp] theorem c_keep106 (r : Nat) : cf.keep 106 r = tab106.getD r [] := rfl
@[simp] theorem c_pure106 : cf.pure 106 = true := rfl
@[simp] theorem c_pack106 : cf.pack 106 = .whole := rfl
@[simp] theorem c_wary106 (r : Nat) : cf.wary 106 r = false := rfl
@[simp] theorem c_clone106 : cf.clone 106 = none := rfl
@[simp] theorem k_out106 : kn.out 106 = .frz [] := rfl
@[simp] theorem k_args106 : kn.args 106 = [] := rfl
@[simp] theorem k_nils106 : kn.nils 106 = fun _ => none := rfl
@[simp] theorem k_gc106 : kn.gc 106 = true := rfl
@[simp] theorem k_ali106 : kn.ali 106 = false := rfl
/-! 107: impl.sizeOf -/
@[simp] theorem c_keep107 (r : Nat) : cf.keep 107 r = tab107.getD r [] := rfl
@[simp] theorem c_pure107 : cf.pure 107 = true := rfl
@[simp] theorem c_pack107 : cf.pack 107 = .whole := rfl
@[simp] theorem c_wary107 (r : Nat) : cf.wary 107 r = false := rfl
@[simp] theorem c_clone107 : cf.clone 107 = none := rfl
@[simp] theorem k_out107 : kn.out 107 = .frz [] := rfl
@[simp] theorem k_args107 : kn.args 107 = [] := rfl
@[simp] theorem k_nils107 : kn.nils 107 = fun _ => none := rfl
@[simp] theorem k_gc107 : kn.gc 107 = true := rfl
@[simp] theorem k_ali107 : kn.ali 107 = false := rfl
/-! 108: spec.l2small -/
@[simp] theorem c_keep108 (r : Nat) : cf.keep 108 r = tab108.getD r [] := rfl
@[simp] theorem c_pure108 : cf.pure 108 = true := rfl
@[simp] theorem c_pack108 : cf.pack 108 = .whole := rfl
@[simp] theorem c_wary108 (r : Nat) : cf.wary 108 r = false := rfl
@[simp] theorem c_clone108 : cf.clone 108 = none := rfl
@[simp] theorem k_out108 : kn.out 108 = .frz [[some (.i .i64)]] := rfl
@[simp] theorem k_args108 : kn.args 108 = [[some (.i .i64)]] := rfl
@[simp] theorem k_nils108 : kn.nils 108 = fun _ => none := rfl
@[simp] theorem k_gc108 : kn.gc 108 = true := rfl
@[simp] theorem k_ali108 : kn.ali 108 = false := rfl
/-! 109: spec.l2norm -/
@[simp] theorem c_keep109 (r : Nat) : cf.keep 109 r = tab109.getD r [] := rfl
@[simp] theorem c_pure109 : cf.pure 109 = true := rfl
@[simp] theorem c_pack109 : cf.pack 109 = .whole := rfl
@[simp] theorem c_wary109 (r : Nat) : cf.wary 109 r = false := rfl
@[simp] theorem c_clone109 : cf.clone 109 = none := rfl
@[simp] theorem k_out109 : kn.out 109 = .own [[some (.i .i64)]] := rfl
@[simp] theorem k_args109 : kn.args 109 = [[some (.i .i64)]] := rfl
@[simp] theorem k_nils109 : kn.nils 109 = fun _ => none := rfl
@[simp] theorem k_gc109 : kn.gc 109 = true := rfl
@[simp] theorem k_ali109 : kn.ali 109 = false := rfl
/-! 110: spec.l2drawLen -/
@[simp] theorem c_keep110 (r : Nat) : cf.keep 110 r = tab110.getD r [] := rfl
@[simp] theorem c_pure110 : cf.pure 110 = false := rfl
@[simp] theorem c_pack110 : cf.pack 110 = .whole := rfl
@[simp] theorem c_wary110 (r : Nat) : cf.wary 110 r = false := rfl
@[simp] theorem c_clone110 : cf.clone 110 = none := rfl
@[simp] theorem k_out110 : kn.out 110 = .inl := rfl
@[simp] theorem k_args110 : kn.args 110 = [] := rfl
@[simp] theorem k_nils110 : kn.nils 110 = fun _ => none := rfl
@[simp] theorem k_gc110 : kn.gc 110 = false := rfl
@[simp] theorem k_ali110 : kn.ali 110 = false := rfl
/-! 111: slices.ContainsFunc[[]byte,byte] -/
@[simp] theorem c_keep111 (r : Nat) : cf.keep 111 r = tab111.getD r [] := rfl
@[simp] theorem c_pure111 : cf.pure 111 = true := rfl
@[simp] theorem c_pack111 : cf.pack 111 = .whole := rfl
@[simp] theorem c_wary111 (r : Nat) : cf.wary 111 r = false := rfl
@[simp] theorem c_clone111 : cf.clone 111 = none := rfl
@[simp] theorem k_out111 : kn.out 111 = .frz [] := rfl
@[simp] theorem k_args111 : kn.args 111 = [[some (.i .u8)]] := rfl
@[simp] theorem k_nils111 : kn.nils 111 = fun _ => none := rfl
@[simp] theorem k_gc111 : kn.gc 111 = true := rfl
@[simp] theorem k_ali111 : kn.ali 111 = false := rfl
/-! 112: impl.areAll[byte]$1 -/
@[simp] theorem c_keep112 (r : Nat) : cf.keep 112 r = tab112.getD r [] := rfl
@[simp] theorem c_pure112 : cf.pure 112 = true := rfl
@[simp] theorem c_pack112 : cf.pack 112 = .whole := rfl
@[simp] theorem c_wary112 (r : Nat) : cf.wary 112 r = false := rfl
@[simp] theorem c_clone112 : cf.clone 112 = none := rfl
@[simp] theorem k_out112 : kn.out 112 = .frz [] := rfl
@[simp] theorem k_args112 : kn.args 112 = [] := rfl
@[simp] theorem k_nils112 : kn.nils 112 = fun _ => none := rfl
@[simp] theorem k_gc112 : kn.gc 112 = true := rfl
@[simp] theorem k_ali112 : kn.ali 112 = false := rfl
/-! 113: slices.Clone[[]int,int] -/
@[simp] theorem c_keep113 (r : Nat) : cf.keep 113 r = tab113.getD r [] := rfl
@[simp] theorem c_pure113 : cf.pure 113 = true := rfl
@[simp] theorem c_pack113 : cf.pack 113 = .pack [.i64] := rfl
@[simp] theorem c_wary113 (r : Nat) : cf.wary 113 r = false := rfl
@[simp] theorem c_clone113 : cf.clone 113 = some .i64 := rfl
@[simp] theorem k_out113 : kn.out 113 = .own [[some (.i .i64)]] := rfl
@[simp] theorem k_args113 : kn.args 113 = [[some (.i .i64)]] := rfl
@[simp] theorem k_nils113 : kn.nils 113 = nil113 := rfl
@[simp] theorem k_gc113 : kn.gc 113 = true := rfl
@[simp] theorem k_ali113 : kn.ali 113 = false := rfl
/-! 114: impl.trim -/
@[simp] theorem c_keep114 (r : Nat) : cf.keep 114 r = tab114.getD r [] := rfl
@[simp] theorem c_pure114 : cf.pure 114 = true := rfl
@[simp] theorem c_pack114 : cf.pack 114 = .whole := rfl
@[simp] theorem c_wary114 (r : Nat) : cf.wary 114 r = false := rfl
@[simp] theorem c_clone114 : cf.clone 114 = none := rfl
@[simp] theorem k_out114 : kn.out 114 = .inl := rfl
@[simp] theorem k_args114 : kn.args 114 = [[some (.i .i64)]] := rfl
@[simp] theorem k_nils114 : kn.nils 114 = nil114 := rfl
@[simp] theorem k_gc114 : kn.gc 114 = false := rfl
@[simp] theorem k_ali114 : kn.ali 114 = true := rfl
/-! 115: impl.leadSize -/
@[simp] theorem c_keep115 (r : Nat) : cf.keep 115 r = tab115.getD r [] := rfl
@[simp] theorem c_pure115 : cf.pure 115 = true := rfl
@[simp] theorem c_pack115 : cf.pack 115 = .whole := rfl
@[simp] theorem c_wary115 (r : Nat) : cf.wary 115 r = false := rfl
@[simp] theorem c_clone115 : cf.clone 115 = none := rfl
@[simp] theorem k_out115 : kn.out 115 = .frz [] := rfl
@[simp] theorem k_args115 : kn.args 115 = [] := rfl
@[simp] theorem k_nils115 : kn.nils 115 = fun _ => none := rfl
@[simp] theorem k_gc115 : kn.gc 115 = true := rfl
@[simp] theorem k_ali115 : kn.ali 115 = false := rfl
/-! 132: slices.IndexFunc[[]byte,byte] -/
@[simp] theorem c_keep132 (r : Nat) : cf.keep 132 r = tab132.getD r [] := rfl
@[simp] theorem c_pure132 : cf.pure 132 = true := rfl
@[simp] theorem c_pack132 : cf.pack 132 = .whole := rfl
@[simp] theorem c_wary132 (r : Nat) : cf.wary 132 r = false := rfl
@[simp] theorem c_clone132 : cf.clone 132 = none := rfl
@[simp] theorem k_out132 : kn.out 132 = .frz [] := rfl
@[simp] theorem k_args132 : kn.args 132 = [[some (.i .u8)]] := rfl
@[simp] theorem k_nils132 : kn.nils 132 = fun _ => none := rfl
@[simp] theorem k_gc132 : kn.gc 132 = true := rfl
@[simp] theorem k_ali132 : kn.ali 132 = false := rfl
theorem kept0 : ((impL ++ aliL).all fun f => (match kn.out f with | .inl => true | _ => false) && !kn.gc f) = true := by kernel_rfl
theorem kept1 (f : FuncId) : (cf.pure f = true ∧ kn.ali f = false) ∨ (kn.out f = .inl ∧ kn.gc f = false) := by
  cases hb : (impL ++ aliL).contains f with
  | false =>
    have h1 : ¬ f ∈ impL ++ aliL := fun h => by rw [List.contains_iff_mem.2 h] at hb; simp at hb
    rw [List.mem_append] at h1
    refine .inl ⟨?_, ?_⟩
    · show (!impL.contains f) = true
      cases h2 : impL.contains f with
      | false => rfl
      | true => exact absurd (.inl (List.contains_iff_mem.1 h2)) h1
    · show aliL.contains f = false
      cases h2 : aliL.contains f with
      | false => rfl
      | true => exact absurd (.inr (List.contains_iff_mem.1 h2)) h1
  | true =>
    have h := List.all_eq_true.1 kept0 f (List.contains_iff_mem.1 hb)
    rw [Bool.and_eq_true] at h
    refine .inr ⟨?_, by simpa using h.2⟩
    cases ho : kn.out f with
    | inl => rfl
    | own ks => rw [ho] at h; simp at h
    | frz ks => rw [ho] at h; simp at h
theorem kept : Kept kn where
  gc f hg := (kept1 f).resolve_right fun h => by rw [h.2] at hg; simp at hg
  out f := (kept1 f).symm.imp (fun h ks e => by rw [h.1] at e; cases e) id
  own f := (kept1 f).symm.imp (fun h ks e => by rw [h.1] at e; cases e) id
/-- What the proof of the engine asks of a function. -/
def staticF (cf : Cfg) (f : FuncId) (m : PM) (fn : Func) : Bool := match m with
  | .no => true
  | _ => match fn.body with
    | some c => codeOk cf f fn.ntmps c && !(fn.name == "runtime.NumGoroutine")
    | none => true
theorem static_all : ((List.range Try.prog.funcs.size).all fun f => Try.prog.funcs[f]?.all (staticF cf f (cf.pack f))) = true := by kernel_rfl
theorem static : Static Try.prog cf := fun f fn c hf hb hno => by
  have h := List.all_eq_true.1 static_all f (List.mem_range.2 (Array.getElem?_eq_some_iff.1 hf).1)
  rw [hf] at h
  simp only [Option.all_some] at h
  unfold staticF at h
  split at h
  · rename_i e; exact absurd e hno
  · rw [hb] at h; simpa using h
@[simp] theorem c_rounds : cf.rounds = 4294967296 := rfl
end Go.Eng
