/- Contracts of this program's functions and the laws that they need: a separation logic over the machine's rules, one theorem each (partly printed by a program of this repository). -/
import Derived.Test.YtceegbilhbhibaaGreatProg
import Derived.KernelRfl
import Derived.Test.YtceegbilhbhibaaGreatP2
import Derived.Test.YtceegbilhbhibaaGreatP3
set_option linter.unusedVariables false
set_option linter.unusedSimpArgs false
set_option linter.unusedSectionVars false
/- THE TYPES' TABLE of this seat's program, printed by mk_tab.py (a program of this repository): each row is checked by the kernel against the loaded program. -/
namespace Go.Proofs.YtceegbilhbhibaaGreat.Hy
open Go.Proofs
set_option maxRecDepth 100000
def tabU : Nat → Option (TypeDesc)
  | 1 => some (.func #[] #[] false)
  | 2 => some (.int .i64)
  | 3 => some (.int .i64)
  | 4 => some (.bool)
  | 5 => some (.int .u8)
  | 9 => some (.string)
  | 12 => some (.int .u64)
  | 20 => some (.interface #[])
  | 21 => some (.int .i32)
  | 22 => some (.slice 55)
  | 23 => some (.slice 26)
  | 24 => some (.slice 58)
  | 27 => some (.func #[26] #[4] false)
  | 28 => some (.func #[] #[4] false)
  | 29 => some (.func #[26] #[26] false)
  | 30 => some (.int .i64)
  | 32 => some (.func #[26, 3, 3] #[26, 30] false)
  | 34 => some (.func #[26, 3, 3] #[26, 3] false)
  | 35 => some (.func #[26, 30, 26, 3] #[4] false)
  | 36 => some (.func #[26, 26] #[4] false)
  | 37 => some (.func #[26, 3, 3, 3] #[4] false)
  | 40 => some (.func #[39, 26] #[4] false)
  | 43 => some (.func #[41, 26] #[41, 30] false)
  | 45 => some (.func #[39, 26] #[39, 3] false)
  | 46 => some (.func #[41] #[41, 30] false)
  | 47 => some (.func #[39] #[39, 3] false)
  | 48 => some (.func #[41, 30, 39, 3] #[4] false)
  | 49 => some (.func #[41] #[30] false)
  | 50 => some (.func #[39] #[3] false)
  | 51 => some (.func #[39, 39] #[4] false)
  | 52 => some (.func #[26, 3] #[3] false)
  | 53 => some (.int .u32)
  | 56 => some (.func #[22, 22] #[4] false)
  | 59 => some (.func #[26, 60, 64] #[26, 30] false)
  | 60 => some (.slice 3)
  | 63 => some (.func #[26, 3, 3] #[26] false)
  | 64 => some (.func #[] #[26] false)
  | 65 => some (.func #[26, 3, 3] #[3] false)
  | 66 => some (.func #[26] #[26, 3] false)
  | 67 => some (.func #[26, 3, 3, 3, 3] #[26] false)
  | 68 => some (.func #[26] #[3] false)
  | 69 => some (.func #[23, 23] #[4] false)
  | 70 => some (.func #[41, 3] #[26, 30] false)
  | 71 => some (.func #[26, 3, 3] #[30] false)
  | 72 => some (.func #[41, 73] #[41, 30] false)
  | 73 => some (.func #[26] #[26, 30] false)
  | 74 => some (.func #[26] #[30] false)
  | 76 => some (.func #[22, 3] #[22] false)
  | 78 => some (.func #[3, 3] #[3, 3] false)
  | 79 => some (.func #[3] #[26] false)
  | 81 => some (.func #[22, 3, 3] #[22, 3] false)
  | 82 => some (.func #[3] #[3] false)
  | 83 => some (.func #[26, 3, 3, 4] #[4] false)
  | 85 => some (.func #[22, 3, 3] #[22, 30] false)
  | 86 => some (.func #[9] #[4] false)
  | 87 => some (.func #[22] #[4] false)
  | 88 => some (.func #[22, 3] #[4] false)
  | 89 => some (.func #[26, 3] #[4] false)
  | 90 => some (.func #[26, 3, 3] #[4] false)
  | 91 => some (.func #[26, 90] #[4] false)
  | 92 => some (.func #[22] #[22] false)
  | 93 => some (.func #[23] #[23] false)
  | 94 => some (.func #[108] #[30] true)
  | 95 => some (.func #[22, 22, 99] #[22, 30] false)
  | 96 => some (.func #[] #[22] false)
  | 98 => some (.func #[55, 3, 3] #[55, 30] false)
  | 99 => some (.func #[22, 55] #[22, 30] false)
  | 100 => some (.func #[22] #[22, 30] false)
  | 102 => some (.func #[55, 3, 3] #[55, 3] false)
  | 103 => some (.func #[22] #[22, 3] false)
  | 104 => some (.array 29 3)
  | 105 => some (.func #[55] #[4] false)
  | 106 => some (.func #[53] #[60] false)
  | 107 => some (.func #[22] #[53] false)
  | 108 => some (.slice 22)
  | 110 => some (.func #[53, 3, 3] #[53, 30] false)
  | 111 => some (.map 55 4)
  | 112 => some (.func #[22, 105] #[4] false)
  | 113 => some (.func #[55, 55] #[4] false)
  | 114 => some (.func #[22, 115] #[] false)
  | 115 => some (.func #[55, 55] #[3] false)
  | 117 => some (.func #[53, 3, 3] #[53, 3] false)
  | 118 => some (.func #[22, 55] #[4] false)
  | 119 => some (.func #[53, 3] #[4] false)
  | 120 => some (.func #[60] #[53] false)
  | 121 => some (.int .u64)
  | 122 => some (.func #[53] #[4] false)
  | 123 => some (.func #[3] #[53] false)
  | 124 => some (.int .u64)
  | 125 => some (.func #[22, 105] #[3] false)
  | 126 => some (.func #[55, 55] #[55] false)
  | 127 => some (.func #[22, 3, 3, 3, 115] #[] false)
  | 128 => some (.func #[121] #[3] false)
  | 129 => some (.func #[53, 53] #[3] false)
  | 130 => some (.func #[53, 3] #[53] false)
  | 131 => some (.func #[22, 3, 3, 115] #[] false)
  | 132 => some (.int .i64)
  | 134 => some (.func #[22, 3, 3, 115] #[3, 132] false)
  | 135 => some (.func #[22, 3, 3, 115] #[4] false)
  | 136 => some (.func #[22, 3, 3, 3, 115] #[3] false)
  | 138 => some (.func #[22, 3, 3, 3, 115] #[3, 4] false)
  | 139 => some (.func #[53] #[3] false)
  | 140 => some (.func #[124] #[3] false)
  | 141 => some (.func #[3] #[4] false)
  | 143 => some (.func #[3] #[121] false)
  | 144 => some (.func #[] #[124] false)
  | 145 => some (.func #[22, 3, 146, 115] #[3] false)
  | 146 => some (.pointer 3)
  | 147 => some (.func #[22, 3, 3, 3, 146, 115] #[3] false)
  | 149 => some (.func #[22, 3, 3, 146, 115] #[3, 3] false)
  | 150 => some (.func #[] #[9] false)
  | 156 => some (.func #[] #[3] false)
  | 160 => some (.pointer 5)
  | _ => none
def tabI : Nat → Option (Nat × Nat × Value)
  | 1 => some (1, 8, .nilFunc)
  | 2 => some (1, 8, .int .i64 0)
  | 3 => some (1, 8, .int .i64 0)
  | 4 => some (1, 1, .bool false)
  | 5 => some (1, 1, .int .u8 0)
  | 9 => some (1, 16, .string ⟨#[]⟩)
  | 12 => some (1, 8, .int .u64 0)
  | 21 => some (1, 4, .int .i32 0)
  | 22 => some (1, 24, .slice none 0 0)
  | 23 => some (1, 24, .slice none 0 0)
  | 24 => some (1, 24, .slice none 0 0)
  | 25 => some (6, 104, .agg #[.int .i64 0, .int .i64 0, .string ⟨#[]⟩, .slice none 0 0, .slice none 0 0, .slice none 0 0])
  | 26 => some (6, 104, .agg #[.int .i64 0, .int .i64 0, .string ⟨#[]⟩, .slice none 0 0, .slice none 0 0, .slice none 0 0])
  | 27 => some (1, 8, .nilFunc)
  | 28 => some (1, 8, .nilFunc)
  | 29 => some (1, 8, .nilFunc)
  | 30 => some (1, 8, .int .i64 0)
  | 32 => some (1, 8, .nilFunc)
  | 34 => some (1, 8, .nilFunc)
  | 35 => some (1, 8, .nilFunc)
  | 36 => some (1, 8, .nilFunc)
  | 37 => some (1, 8, .nilFunc)
  | 38 => some (2, 32, .agg #[.slice none 0 0, .int .i64 0])
  | 39 => some (2, 32, .agg #[.slice none 0 0, .int .i64 0])
  | 40 => some (1, 8, .nilFunc)
  | 41 => some (2, 32, .agg #[.slice none 0 0, .int .i64 0])
  | 43 => some (1, 8, .nilFunc)
  | 45 => some (1, 8, .nilFunc)
  | 46 => some (1, 8, .nilFunc)
  | 47 => some (1, 8, .nilFunc)
  | 48 => some (1, 8, .nilFunc)
  | 49 => some (1, 8, .nilFunc)
  | 50 => some (1, 8, .nilFunc)
  | 51 => some (1, 8, .nilFunc)
  | 52 => some (1, 8, .nilFunc)
  | 53 => some (1, 4, .int .u32 0)
  | 54 => some (2, 8, .agg #[.int .u32 0, .int .u32 0])
  | 55 => some (2, 8, .agg #[.int .u32 0, .int .u32 0])
  | 56 => some (1, 8, .nilFunc)
  | 57 => some (2, 48, .agg #[.slice none 0 0, .slice none 0 0])
  | 58 => some (2, 48, .agg #[.slice none 0 0, .slice none 0 0])
  | 59 => some (1, 8, .nilFunc)
  | 60 => some (1, 24, .slice none 0 0)
  | 61 => some (2, 16, .agg #[.int .i64 0, .int .i64 0])
  | 62 => some (2, 16, .agg #[.int .i64 0, .int .i64 0])
  | 63 => some (1, 8, .nilFunc)
  | 64 => some (1, 8, .nilFunc)
  | 65 => some (1, 8, .nilFunc)
  | 66 => some (1, 8, .nilFunc)
  | 67 => some (1, 8, .nilFunc)
  | 68 => some (1, 8, .nilFunc)
  | 69 => some (1, 8, .nilFunc)
  | 70 => some (1, 8, .nilFunc)
  | 71 => some (1, 8, .nilFunc)
  | 72 => some (1, 8, .nilFunc)
  | 73 => some (1, 8, .nilFunc)
  | 74 => some (1, 8, .nilFunc)
  | 76 => some (1, 8, .nilFunc)
  | 78 => some (1, 8, .nilFunc)
  | 79 => some (1, 8, .nilFunc)
  | 81 => some (1, 8, .nilFunc)
  | 82 => some (1, 8, .nilFunc)
  | 83 => some (1, 8, .nilFunc)
  | 85 => some (1, 8, .nilFunc)
  | 86 => some (1, 8, .nilFunc)
  | 87 => some (1, 8, .nilFunc)
  | 88 => some (1, 8, .nilFunc)
  | 89 => some (1, 8, .nilFunc)
  | 90 => some (1, 8, .nilFunc)
  | 91 => some (1, 8, .nilFunc)
  | 92 => some (1, 8, .nilFunc)
  | 93 => some (1, 8, .nilFunc)
  | 94 => some (1, 8, .nilFunc)
  | 95 => some (1, 8, .nilFunc)
  | 96 => some (1, 8, .nilFunc)
  | 98 => some (1, 8, .nilFunc)
  | 99 => some (1, 8, .nilFunc)
  | 100 => some (1, 8, .nilFunc)
  | 102 => some (1, 8, .nilFunc)
  | 103 => some (1, 8, .nilFunc)
  | 104 => some (29, 232, .agg #[.int .i64 0, .int .i64 0, .int .i64 0, .int .i64 0, .int .i64 0, .int .i64 0, .int .i64 0, .int .i64 0, .int .i64 0, .int .i64 0, .int .i64 0, .int .i64 0, .int .i64 0, .int .i64 0, .int .i64 0, .int .i64 0, .int .i64 0, .int .i64 0, .int .i64 0, .int .i64 0, .int .i64 0, .int .i64 0, .int .i64 0, .int .i64 0, .int .i64 0, .int .i64 0, .int .i64 0, .int .i64 0, .int .i64 0])
  | 105 => some (1, 8, .nilFunc)
  | 106 => some (1, 8, .nilFunc)
  | 107 => some (1, 8, .nilFunc)
  | 108 => some (1, 24, .slice none 0 0)
  | 110 => some (1, 8, .nilFunc)
  | 111 => some (1, 8, .map none)
  | 112 => some (1, 8, .nilFunc)
  | 113 => some (1, 8, .nilFunc)
  | 114 => some (1, 8, .nilFunc)
  | 115 => some (1, 8, .nilFunc)
  | 117 => some (1, 8, .nilFunc)
  | 118 => some (1, 8, .nilFunc)
  | 119 => some (1, 8, .nilFunc)
  | 120 => some (1, 8, .nilFunc)
  | 121 => some (1, 8, .int .u64 0)
  | 122 => some (1, 8, .nilFunc)
  | 123 => some (1, 8, .nilFunc)
  | 124 => some (1, 8, .int .u64 0)
  | 125 => some (1, 8, .nilFunc)
  | 126 => some (1, 8, .nilFunc)
  | 127 => some (1, 8, .nilFunc)
  | 128 => some (1, 8, .nilFunc)
  | 129 => some (1, 8, .nilFunc)
  | 130 => some (1, 8, .nilFunc)
  | 131 => some (1, 8, .nilFunc)
  | 132 => some (1, 8, .int .i64 0)
  | 134 => some (1, 8, .nilFunc)
  | 135 => some (1, 8, .nilFunc)
  | 136 => some (1, 8, .nilFunc)
  | 138 => some (1, 8, .nilFunc)
  | 139 => some (1, 8, .nilFunc)
  | 140 => some (1, 8, .nilFunc)
  | 141 => some (1, 8, .nilFunc)
  | 143 => some (1, 8, .nilFunc)
  | 144 => some (1, 8, .nilFunc)
  | 145 => some (1, 8, .nilFunc)
  | 146 => some (1, 8, .pointer none)
  | 147 => some (1, 8, .nilFunc)
  | 149 => some (1, 8, .nilFunc)
  | 150 => some (1, 8, .nilFunc)
  | 156 => some (1, 8, .nilFunc)
  | 160 => some (1, 8, .pointer none)
  | _ => none
def tabL : Nat → Option (List (Nat × Nat))
  | 25 => some ([(0, 1), (1, 1), (2, 1), (3, 1), (4, 1), (5, 1)])
  | 26 => some ([(0, 1), (1, 1), (2, 1), (3, 1), (4, 1), (5, 1)])
  | 38 => some ([(0, 1), (1, 1)])
  | 39 => some ([(0, 1), (1, 1)])
  | 41 => some ([(0, 1), (1, 1)])
  | 54 => some ([(0, 1), (1, 1)])
  | 55 => some ([(0, 1), (1, 1)])
  | 57 => some ([(0, 1), (1, 1)])
  | 58 => some ([(0, 1), (1, 1)])
  | 61 => some ([(0, 1), (1, 1)])
  | 62 => some ([(0, 1), (1, 1)])
  | _ => none
def tabF (t j : Nat) : Option Nat := (tabL t).bind fun l => (l[j]?).map (·.1)
theorem inf1 : (Tryz.prog.info? 1).map (fun i => (i.size, i.bytes, i.zero)) = some (1, 8, some (.nilFunc)) := by kernel_rfl
theorem inf2 : (Tryz.prog.info? 2).map (fun i => (i.size, i.bytes, i.zero)) = some (1, 8, some (.int .i64 0)) := by kernel_rfl
theorem inf3 : (Tryz.prog.info? 3).map (fun i => (i.size, i.bytes, i.zero)) = some (1, 8, some (.int .i64 0)) := by kernel_rfl
theorem inf4 : (Tryz.prog.info? 4).map (fun i => (i.size, i.bytes, i.zero)) = some (1, 1, some (.bool false)) := by kernel_rfl
theorem inf5 : (Tryz.prog.info? 5).map (fun i => (i.size, i.bytes, i.zero)) = some (1, 1, some (.int .u8 0)) := by kernel_rfl
theorem inf9 : (Tryz.prog.info? 9).map (fun i => (i.size, i.bytes, i.zero)) = some (1, 16, some (.string ⟨#[]⟩)) := by kernel_rfl
theorem inf12 : (Tryz.prog.info? 12).map (fun i => (i.size, i.bytes, i.zero)) = some (1, 8, some (.int .u64 0)) := by kernel_rfl
theorem inf21 : (Tryz.prog.info? 21).map (fun i => (i.size, i.bytes, i.zero)) = some (1, 4, some (.int .i32 0)) := by kernel_rfl
theorem inf22 : (Tryz.prog.info? 22).map (fun i => (i.size, i.bytes, i.zero)) = some (1, 24, some (.slice none 0 0)) := by kernel_rfl
theorem inf23 : (Tryz.prog.info? 23).map (fun i => (i.size, i.bytes, i.zero)) = some (1, 24, some (.slice none 0 0)) := by kernel_rfl
theorem inf24 : (Tryz.prog.info? 24).map (fun i => (i.size, i.bytes, i.zero)) = some (1, 24, some (.slice none 0 0)) := by kernel_rfl
theorem inf25 : (Tryz.prog.info? 25).map (fun i => (i.size, i.bytes, i.zero)) = some (6, 104, some (.agg #[.int .i64 0, .int .i64 0, .string ⟨#[]⟩, .slice none 0 0, .slice none 0 0, .slice none 0 0])) := by kernel_rfl
theorem inf26 : (Tryz.prog.info? 26).map (fun i => (i.size, i.bytes, i.zero)) = some (6, 104, some (.agg #[.int .i64 0, .int .i64 0, .string ⟨#[]⟩, .slice none 0 0, .slice none 0 0, .slice none 0 0])) := by kernel_rfl
theorem inf27 : (Tryz.prog.info? 27).map (fun i => (i.size, i.bytes, i.zero)) = some (1, 8, some (.nilFunc)) := by kernel_rfl
theorem inf28 : (Tryz.prog.info? 28).map (fun i => (i.size, i.bytes, i.zero)) = some (1, 8, some (.nilFunc)) := by kernel_rfl
theorem inf29 : (Tryz.prog.info? 29).map (fun i => (i.size, i.bytes, i.zero)) = some (1, 8, some (.nilFunc)) := by kernel_rfl
theorem inf30 : (Tryz.prog.info? 30).map (fun i => (i.size, i.bytes, i.zero)) = some (1, 8, some (.int .i64 0)) := by kernel_rfl
theorem inf32 : (Tryz.prog.info? 32).map (fun i => (i.size, i.bytes, i.zero)) = some (1, 8, some (.nilFunc)) := by kernel_rfl
theorem inf34 : (Tryz.prog.info? 34).map (fun i => (i.size, i.bytes, i.zero)) = some (1, 8, some (.nilFunc)) := by kernel_rfl
theorem inf35 : (Tryz.prog.info? 35).map (fun i => (i.size, i.bytes, i.zero)) = some (1, 8, some (.nilFunc)) := by kernel_rfl
theorem inf36 : (Tryz.prog.info? 36).map (fun i => (i.size, i.bytes, i.zero)) = some (1, 8, some (.nilFunc)) := by kernel_rfl
theorem inf37 : (Tryz.prog.info? 37).map (fun i => (i.size, i.bytes, i.zero)) = some (1, 8, some (.nilFunc)) := by kernel_rfl
theorem inf38 : (Tryz.prog.info? 38).map (fun i => (i.size, i.bytes, i.zero)) = some (2, 32, some (.agg #[.slice none 0 0, .int .i64 0])) := by kernel_rfl
theorem inf39 : (Tryz.prog.info? 39).map (fun i => (i.size, i.bytes, i.zero)) = some (2, 32, some (.agg #[.slice none 0 0, .int .i64 0])) := by kernel_rfl
theorem inf40 : (Tryz.prog.info? 40).map (fun i => (i.size, i.bytes, i.zero)) = some (1, 8, some (.nilFunc)) := by kernel_rfl
theorem inf41 : (Tryz.prog.info? 41).map (fun i => (i.size, i.bytes, i.zero)) = some (2, 32, some (.agg #[.slice none 0 0, .int .i64 0])) := by kernel_rfl
theorem inf43 : (Tryz.prog.info? 43).map (fun i => (i.size, i.bytes, i.zero)) = some (1, 8, some (.nilFunc)) := by kernel_rfl
theorem inf45 : (Tryz.prog.info? 45).map (fun i => (i.size, i.bytes, i.zero)) = some (1, 8, some (.nilFunc)) := by kernel_rfl
theorem inf46 : (Tryz.prog.info? 46).map (fun i => (i.size, i.bytes, i.zero)) = some (1, 8, some (.nilFunc)) := by kernel_rfl
theorem inf47 : (Tryz.prog.info? 47).map (fun i => (i.size, i.bytes, i.zero)) = some (1, 8, some (.nilFunc)) := by kernel_rfl
theorem inf48 : (Tryz.prog.info? 48).map (fun i => (i.size, i.bytes, i.zero)) = some (1, 8, some (.nilFunc)) := by kernel_rfl
theorem inf49 : (Tryz.prog.info? 49).map (fun i => (i.size, i.bytes, i.zero)) = some (1, 8, some (.nilFunc)) := by kernel_rfl
theorem inf50 : (Tryz.prog.info? 50).map (fun i => (i.size, i.bytes, i.zero)) = some (1, 8, some (.nilFunc)) := by kernel_rfl
theorem inf51 : (Tryz.prog.info? 51).map (fun i => (i.size, i.bytes, i.zero)) = some (1, 8, some (.nilFunc)) := by kernel_rfl
theorem inf52 : (Tryz.prog.info? 52).map (fun i => (i.size, i.bytes, i.zero)) = some (1, 8, some (.nilFunc)) := by kernel_rfl
theorem inf53 : (Tryz.prog.info? 53).map (fun i => (i.size, i.bytes, i.zero)) = some (1, 4, some (.int .u32 0)) := by kernel_rfl
theorem inf54 : (Tryz.prog.info? 54).map (fun i => (i.size, i.bytes, i.zero)) = some (2, 8, some (.agg #[.int .u32 0, .int .u32 0])) := by kernel_rfl
theorem inf55 : (Tryz.prog.info? 55).map (fun i => (i.size, i.bytes, i.zero)) = some (2, 8, some (.agg #[.int .u32 0, .int .u32 0])) := by kernel_rfl
theorem inf56 : (Tryz.prog.info? 56).map (fun i => (i.size, i.bytes, i.zero)) = some (1, 8, some (.nilFunc)) := by kernel_rfl
theorem inf57 : (Tryz.prog.info? 57).map (fun i => (i.size, i.bytes, i.zero)) = some (2, 48, some (.agg #[.slice none 0 0, .slice none 0 0])) := by kernel_rfl
theorem inf58 : (Tryz.prog.info? 58).map (fun i => (i.size, i.bytes, i.zero)) = some (2, 48, some (.agg #[.slice none 0 0, .slice none 0 0])) := by kernel_rfl
theorem inf59 : (Tryz.prog.info? 59).map (fun i => (i.size, i.bytes, i.zero)) = some (1, 8, some (.nilFunc)) := by kernel_rfl
theorem inf60 : (Tryz.prog.info? 60).map (fun i => (i.size, i.bytes, i.zero)) = some (1, 24, some (.slice none 0 0)) := by kernel_rfl
theorem inf61 : (Tryz.prog.info? 61).map (fun i => (i.size, i.bytes, i.zero)) = some (2, 16, some (.agg #[.int .i64 0, .int .i64 0])) := by kernel_rfl
theorem inf62 : (Tryz.prog.info? 62).map (fun i => (i.size, i.bytes, i.zero)) = some (2, 16, some (.agg #[.int .i64 0, .int .i64 0])) := by kernel_rfl
theorem inf63 : (Tryz.prog.info? 63).map (fun i => (i.size, i.bytes, i.zero)) = some (1, 8, some (.nilFunc)) := by kernel_rfl
theorem inf64 : (Tryz.prog.info? 64).map (fun i => (i.size, i.bytes, i.zero)) = some (1, 8, some (.nilFunc)) := by kernel_rfl
theorem inf65 : (Tryz.prog.info? 65).map (fun i => (i.size, i.bytes, i.zero)) = some (1, 8, some (.nilFunc)) := by kernel_rfl
theorem inf66 : (Tryz.prog.info? 66).map (fun i => (i.size, i.bytes, i.zero)) = some (1, 8, some (.nilFunc)) := by kernel_rfl
theorem inf67 : (Tryz.prog.info? 67).map (fun i => (i.size, i.bytes, i.zero)) = some (1, 8, some (.nilFunc)) := by kernel_rfl
theorem inf68 : (Tryz.prog.info? 68).map (fun i => (i.size, i.bytes, i.zero)) = some (1, 8, some (.nilFunc)) := by kernel_rfl
theorem inf69 : (Tryz.prog.info? 69).map (fun i => (i.size, i.bytes, i.zero)) = some (1, 8, some (.nilFunc)) := by kernel_rfl
theorem inf70 : (Tryz.prog.info? 70).map (fun i => (i.size, i.bytes, i.zero)) = some (1, 8, some (.nilFunc)) := by kernel_rfl
theorem inf71 : (Tryz.prog.info? 71).map (fun i => (i.size, i.bytes, i.zero)) = some (1, 8, some (.nilFunc)) := by kernel_rfl
theorem inf72 : (Tryz.prog.info? 72).map (fun i => (i.size, i.bytes, i.zero)) = some (1, 8, some (.nilFunc)) := by kernel_rfl
theorem inf73 : (Tryz.prog.info? 73).map (fun i => (i.size, i.bytes, i.zero)) = some (1, 8, some (.nilFunc)) := by kernel_rfl
theorem inf74 : (Tryz.prog.info? 74).map (fun i => (i.size, i.bytes, i.zero)) = some (1, 8, some (.nilFunc)) := by kernel_rfl
theorem inf76 : (Tryz.prog.info? 76).map (fun i => (i.size, i.bytes, i.zero)) = some (1, 8, some (.nilFunc)) := by kernel_rfl
theorem inf78 : (Tryz.prog.info? 78).map (fun i => (i.size, i.bytes, i.zero)) = some (1, 8, some (.nilFunc)) := by kernel_rfl
theorem inf79 : (Tryz.prog.info? 79).map (fun i => (i.size, i.bytes, i.zero)) = some (1, 8, some (.nilFunc)) := by kernel_rfl
theorem inf81 : (Tryz.prog.info? 81).map (fun i => (i.size, i.bytes, i.zero)) = some (1, 8, some (.nilFunc)) := by kernel_rfl
theorem inf82 : (Tryz.prog.info? 82).map (fun i => (i.size, i.bytes, i.zero)) = some (1, 8, some (.nilFunc)) := by kernel_rfl
theorem inf83 : (Tryz.prog.info? 83).map (fun i => (i.size, i.bytes, i.zero)) = some (1, 8, some (.nilFunc)) := by kernel_rfl
theorem inf85 : (Tryz.prog.info? 85).map (fun i => (i.size, i.bytes, i.zero)) = some (1, 8, some (.nilFunc)) := by kernel_rfl
theorem inf86 : (Tryz.prog.info? 86).map (fun i => (i.size, i.bytes, i.zero)) = some (1, 8, some (.nilFunc)) := by kernel_rfl
theorem inf87 : (Tryz.prog.info? 87).map (fun i => (i.size, i.bytes, i.zero)) = some (1, 8, some (.nilFunc)) := by kernel_rfl
theorem inf88 : (Tryz.prog.info? 88).map (fun i => (i.size, i.bytes, i.zero)) = some (1, 8, some (.nilFunc)) := by kernel_rfl
theorem inf89 : (Tryz.prog.info? 89).map (fun i => (i.size, i.bytes, i.zero)) = some (1, 8, some (.nilFunc)) := by kernel_rfl
theorem inf90 : (Tryz.prog.info? 90).map (fun i => (i.size, i.bytes, i.zero)) = some (1, 8, some (.nilFunc)) := by kernel_rfl
theorem inf91 : (Tryz.prog.info? 91).map (fun i => (i.size, i.bytes, i.zero)) = some (1, 8, some (.nilFunc)) := by kernel_rfl
theorem inf92 : (Tryz.prog.info? 92).map (fun i => (i.size, i.bytes, i.zero)) = some (1, 8, some (.nilFunc)) := by kernel_rfl
theorem inf93 : (Tryz.prog.info? 93).map (fun i => (i.size, i.bytes, i.zero)) = some (1, 8, some (.nilFunc)) := by kernel_rfl
theorem inf94 : (Tryz.prog.info? 94).map (fun i => (i.size, i.bytes, i.zero)) = some (1, 8, some (.nilFunc)) := by kernel_rfl
theorem inf95 : (Tryz.prog.info? 95).map (fun i => (i.size, i.bytes, i.zero)) = some (1, 8, some (.nilFunc)) := by kernel_rfl
theorem inf96 : (Tryz.prog.info? 96).map (fun i => (i.size, i.bytes, i.zero)) = some (1, 8, some (.nilFunc)) := by kernel_rfl
theorem inf98 : (Tryz.prog.info? 98).map (fun i => (i.size, i.bytes, i.zero)) = some (1, 8, some (.nilFunc)) := by kernel_rfl
theorem inf99 : (Tryz.prog.info? 99).map (fun i => (i.size, i.bytes, i.zero)) = some (1, 8, some (.nilFunc)) := by kernel_rfl
theorem inf100 : (Tryz.prog.info? 100).map (fun i => (i.size, i.bytes, i.zero)) = some (1, 8, some (.nilFunc)) := by kernel_rfl
theorem inf102 : (Tryz.prog.info? 102).map (fun i => (i.size, i.bytes, i.zero)) = some (1, 8, some (.nilFunc)) := by kernel_rfl
theorem inf103 : (Tryz.prog.info? 103).map (fun i => (i.size, i.bytes, i.zero)) = some (1, 8, some (.nilFunc)) := by kernel_rfl
theorem inf104 : (Tryz.prog.info? 104).map (fun i => (i.size, i.bytes, i.zero)) = some (29, 232, some (.agg #[.int .i64 0, .int .i64 0, .int .i64 0, .int .i64 0, .int .i64 0, .int .i64 0, .int .i64 0, .int .i64 0, .int .i64 0, .int .i64 0, .int .i64 0, .int .i64 0, .int .i64 0, .int .i64 0, .int .i64 0, .int .i64 0, .int .i64 0, .int .i64 0, .int .i64 0, .int .i64 0, .int .i64 0, .int .i64 0, .int .i64 0, .int .i64 0, .int .i64 0, .int .i64 0, .int .i64 0, .int .i64 0, .int .i64 0])) := by kernel_rfl
theorem inf105 : (Tryz.prog.info? 105).map (fun i => (i.size, i.bytes, i.zero)) = some (1, 8, some (.nilFunc)) := by kernel_rfl
theorem inf106 : (Tryz.prog.info? 106).map (fun i => (i.size, i.bytes, i.zero)) = some (1, 8, some (.nilFunc)) := by kernel_rfl
theorem inf107 : (Tryz.prog.info? 107).map (fun i => (i.size, i.bytes, i.zero)) = some (1, 8, some (.nilFunc)) := by kernel_rfl
theorem inf108 : (Tryz.prog.info? 108).map (fun i => (i.size, i.bytes, i.zero)) = some (1, 24, some (.slice none 0 0)) := by kernel_rfl
theorem inf110 : (Tryz.prog.info? 110).map (fun i => (i.size, i.bytes, i.zero)) = some (1, 8, some (.nilFunc)) := by kernel_rfl
theorem inf111 : (Tryz.prog.info? 111).map (fun i => (i.size, i.bytes, i.zero)) = some (1, 8, some (.map none)) := by kernel_rfl
theorem inf112 : (Tryz.prog.info? 112).map (fun i => (i.size, i.bytes, i.zero)) = some (1, 8, some (.nilFunc)) := by kernel_rfl
theorem inf113 : (Tryz.prog.info? 113).map (fun i => (i.size, i.bytes, i.zero)) = some (1, 8, some (.nilFunc)) := by kernel_rfl
theorem inf114 : (Tryz.prog.info? 114).map (fun i => (i.size, i.bytes, i.zero)) = some (1, 8, some (.nilFunc)) := by kernel_rfl
theorem inf115 : (Tryz.prog.info? 115).map (fun i => (i.size, i.bytes, i.zero)) = some (1, 8, some (.nilFunc)) := by kernel_rfl
theorem inf117 : (Tryz.prog.info? 117).map (fun i => (i.size, i.bytes, i.zero)) = some (1, 8, some (.nilFunc)) := by kernel_rfl
theorem inf118 : (Tryz.prog.info? 118).map (fun i => (i.size, i.bytes, i.zero)) = some (1, 8, some (.nilFunc)) := by kernel_rfl
theorem inf119 : (Tryz.prog.info? 119).map (fun i => (i.size, i.bytes, i.zero)) = some (1, 8, some (.nilFunc)) := by kernel_rfl
theorem inf120 : (Tryz.prog.info? 120).map (fun i => (i.size, i.bytes, i.zero)) = some (1, 8, some (.nilFunc)) := by kernel_rfl
theorem inf121 : (Tryz.prog.info? 121).map (fun i => (i.size, i.bytes, i.zero)) = some (1, 8, some (.int .u64 0)) := by kernel_rfl
theorem inf122 : (Tryz.prog.info? 122).map (fun i => (i.size, i.bytes, i.zero)) = some (1, 8, some (.nilFunc)) := by kernel_rfl
theorem inf123 : (Tryz.prog.info? 123).map (fun i => (i.size, i.bytes, i.zero)) = some (1, 8, some (.nilFunc)) := by kernel_rfl
theorem inf124 : (Tryz.prog.info? 124).map (fun i => (i.size, i.bytes, i.zero)) = some (1, 8, some (.int .u64 0)) := by kernel_rfl
theorem inf125 : (Tryz.prog.info? 125).map (fun i => (i.size, i.bytes, i.zero)) = some (1, 8, some (.nilFunc)) := by kernel_rfl
theorem inf126 : (Tryz.prog.info? 126).map (fun i => (i.size, i.bytes, i.zero)) = some (1, 8, some (.nilFunc)) := by kernel_rfl
theorem inf127 : (Tryz.prog.info? 127).map (fun i => (i.size, i.bytes, i.zero)) = some (1, 8, some (.nilFunc)) := by kernel_rfl
theorem inf128 : (Tryz.prog.info? 128).map (fun i => (i.size, i.bytes, i.zero)) = some (1, 8, some (.nilFunc)) := by kernel_rfl
theorem inf129 : (Tryz.prog.info? 129).map (fun i => (i.size, i.bytes, i.zero)) = some (1, 8, some (.nilFunc)) := by kernel_rfl
theorem inf130 : (Tryz.prog.info? 130).map (fun i => (i.size, i.bytes, i.zero)) = some (1, 8, some (.nilFunc)) := by kernel_rfl
theorem inf131 : (Tryz.prog.info? 131).map (fun i => (i.size, i.bytes, i.zero)) = some (1, 8, some (.nilFunc)) := by kernel_rfl
theorem inf132 : (Tryz.prog.info? 132).map (fun i => (i.size, i.bytes, i.zero)) = some (1, 8, some (.int .i64 0)) := by kernel_rfl
theorem inf134 : (Tryz.prog.info? 134).map (fun i => (i.size, i.bytes, i.zero)) = some (1, 8, some (.nilFunc)) := by kernel_rfl
theorem inf135 : (Tryz.prog.info? 135).map (fun i => (i.size, i.bytes, i.zero)) = some (1, 8, some (.nilFunc)) := by kernel_rfl
theorem inf136 : (Tryz.prog.info? 136).map (fun i => (i.size, i.bytes, i.zero)) = some (1, 8, some (.nilFunc)) := by kernel_rfl
theorem inf138 : (Tryz.prog.info? 138).map (fun i => (i.size, i.bytes, i.zero)) = some (1, 8, some (.nilFunc)) := by kernel_rfl
theorem inf139 : (Tryz.prog.info? 139).map (fun i => (i.size, i.bytes, i.zero)) = some (1, 8, some (.nilFunc)) := by kernel_rfl
theorem inf140 : (Tryz.prog.info? 140).map (fun i => (i.size, i.bytes, i.zero)) = some (1, 8, some (.nilFunc)) := by kernel_rfl
theorem inf141 : (Tryz.prog.info? 141).map (fun i => (i.size, i.bytes, i.zero)) = some (1, 8, some (.nilFunc)) := by kernel_rfl
theorem inf143 : (Tryz.prog.info? 143).map (fun i => (i.size, i.bytes, i.zero)) = some (1, 8, some (.nilFunc)) := by kernel_rfl
theorem inf144 : (Tryz.prog.info? 144).map (fun i => (i.size, i.bytes, i.zero)) = some (1, 8, some (.nilFunc)) := by kernel_rfl
theorem inf145 : (Tryz.prog.info? 145).map (fun i => (i.size, i.bytes, i.zero)) = some (1, 8, some (.nilFunc)) := by kernel_rfl
theorem inf146 : (Tryz.prog.info? 146).map (fun i => (i.size, i.bytes, i.zero)) = some (1, 8, some (.pointer none)) := by kernel_rfl
theorem inf147 : (Tryz.prog.info? 147).map (fun i => (i.size, i.bytes, i.zero)) = some (1, 8, some (.nilFunc)) := by kernel_rfl
theorem inf149 : (Tryz.prog.info? 149).map (fun i => (i.size, i.bytes, i.zero)) = some (1, 8, some (.nilFunc)) := by kernel_rfl
theorem inf150 : (Tryz.prog.info? 150).map (fun i => (i.size, i.bytes, i.zero)) = some (1, 8, some (.nilFunc)) := by kernel_rfl
theorem inf156 : (Tryz.prog.info? 156).map (fun i => (i.size, i.bytes, i.zero)) = some (1, 8, some (.nilFunc)) := by kernel_rfl
theorem inf160 : (Tryz.prog.info? 160).map (fun i => (i.size, i.bytes, i.zero)) = some (1, 8, some (.pointer none)) := by kernel_rfl
theorem inf_of {t s b : Nat} {z : Value} (h : (Tryz.prog.info? t).map (fun i => (i.size, i.bytes, i.zero)) = some (s, b, some z)) : ∃ i, Tryz.prog.info? t = some i ∧ i.size = s ∧ i.bytes = b ∧ i.zero = some z := by
  obtain ⟨i, h1, h2⟩ := Option.map_eq_some_iff.1 h
  simp only [Prod.mk.injEq] at h2
  exact ⟨i, h1, h2.1, h2.2.1, h2.2.2⟩
theorem tabU_ok : ∀ t d, tabU t = some d → Tryz.prog.underlying t = some d := by
  intro t d h
  unfold tabU at h
  split at h
  · cases h; exact Tryz.underlying1
  · cases h; exact Tryz.underlying2
  · cases h; exact Tryz.underlying3
  · cases h; exact Tryz.underlying4
  · cases h; exact Tryz.underlying5
  · cases h; exact Tryz.underlying9
  · cases h; exact Tryz.underlying12
  · cases h; exact Tryz.underlying20
  · cases h; exact Tryz.underlying21
  · cases h; exact Tryz.underlying22
  · cases h; exact Tryz.underlying23
  · cases h; exact Tryz.underlying24
  · cases h; exact Tryz.underlying27
  · cases h; exact Tryz.underlying28
  · cases h; exact Tryz.underlying29
  · cases h; exact Tryz.underlying30
  · cases h; exact Tryz.underlying32
  · cases h; exact Tryz.underlying34
  · cases h; exact Tryz.underlying35
  · cases h; exact Tryz.underlying36
  · cases h; exact Tryz.underlying37
  · cases h; exact Tryz.underlying40
  · cases h; exact Tryz.underlying43
  · cases h; exact Tryz.underlying45
  · cases h; exact Tryz.underlying46
  · cases h; exact Tryz.underlying47
  · cases h; exact Tryz.underlying48
  · cases h; exact Tryz.underlying49
  · cases h; exact Tryz.underlying50
  · cases h; exact Tryz.underlying51
  · cases h; exact Tryz.underlying52
  · cases h; exact Tryz.underlying53
  · cases h; exact Tryz.underlying56
  · cases h; exact Tryz.underlying59
  · cases h; exact Tryz.underlying60
  · cases h; exact Tryz.underlying63
  · cases h; exact Tryz.underlying64
  · cases h; exact Tryz.underlying65
  · cases h; exact Tryz.underlying66
  · cases h; exact Tryz.underlying67
  · cases h; exact Tryz.underlying68
  · cases h; exact Tryz.underlying69
  · cases h; exact Tryz.underlying70
  · cases h; exact Tryz.underlying71
  · cases h; exact Tryz.underlying72
  · cases h; exact Tryz.underlying73
  · cases h; exact Tryz.underlying74
  · cases h; exact Tryz.underlying76
  · cases h; exact Tryz.underlying78
  · cases h; exact Tryz.underlying79
  · cases h; exact Tryz.underlying81
  · cases h; exact Tryz.underlying82
  · cases h; exact Tryz.underlying83
  · cases h; exact Tryz.underlying85
  · cases h; exact Tryz.underlying86
  · cases h; exact Tryz.underlying87
  · cases h; exact Tryz.underlying88
  · cases h; exact Tryz.underlying89
  · cases h; exact Tryz.underlying90
  · cases h; exact Tryz.underlying91
  · cases h; exact Tryz.underlying92
  · cases h; exact Tryz.underlying93
  · cases h; exact Tryz.underlying94
  · cases h; exact Tryz.underlying95
  · cases h; exact Tryz.underlying96
  · cases h; exact Tryz.underlying98
  · cases h; exact Tryz.underlying99
  · cases h; exact Tryz.underlying100
  · cases h; exact Tryz.underlying102
  · cases h; exact Tryz.underlying103
  · cases h; exact Tryz.underlying104
  · cases h; exact Tryz.underlying105
  · cases h; exact Tryz.underlying106
  · cases h; exact Tryz.underlying107
  · cases h; exact Tryz.underlying108
  · cases h; exact Tryz.underlying110
  · cases h; exact Tryz.underlying111
  · cases h; exact Tryz.underlying112
  · cases h; exact Tryz.underlying113
  · cases h; exact Tryz.underlying114
  · cases h; exact Tryz.underlying115
  · cases h; exact Tryz.underlying117
  · cases h; exact Tryz.underlying118
  · cases h; exact Tryz.underlying119
  · cases h; exact Tryz.underlying120
  · cases h; exact Tryz.underlying121
  · cases h; exact Tryz.underlying122
  · cases h; exact Tryz.underlying123
  · cases h; exact Tryz.underlying124
  · cases h; exact Tryz.underlying125
  · cases h; exact Tryz.underlying126
  · cases h; exact Tryz.underlying127
  · cases h; exact Tryz.underlying128
  · cases h; exact Tryz.underlying129
  · cases h; exact Tryz.underlying130
  · cases h; exact Tryz.underlying131
  · cases h; exact Tryz.underlying132
  · cases h; exact Tryz.underlying134
  · cases h; exact Tryz.underlying135
  · cases h; exact Tryz.underlying136
  · cases h; exact Tryz.underlying138
  · cases h; exact Tryz.underlying139
  · cases h; exact Tryz.underlying140
  · cases h; exact Tryz.underlying141
  · cases h; exact Tryz.underlying143
  · cases h; exact Tryz.underlying144
  · cases h; exact Tryz.underlying145
  · cases h; exact Tryz.underlying146
  · cases h; exact Tryz.underlying147
  · cases h; exact Tryz.underlying149
  · cases h; exact Tryz.underlying150
  · cases h; exact Tryz.underlying156
  · cases h; exact Tryz.underlying160
  · cases h
theorem tabI_ok : ∀ t s b z, tabI t = some (s, b, z) → ∃ i, Tryz.prog.info? t = some i ∧ i.size = s ∧ i.bytes = b ∧ i.zero = some z := by
  intro t s b z h
  unfold tabI at h
  split at h
  · cases h; exact inf_of inf1
  · cases h; exact inf_of inf2
  · cases h; exact inf_of inf3
  · cases h; exact inf_of inf4
  · cases h; exact inf_of inf5
  · cases h; exact inf_of inf9
  · cases h; exact inf_of inf12
  · cases h; exact inf_of inf21
  · cases h; exact inf_of inf22
  · cases h; exact inf_of inf23
  · cases h; exact inf_of inf24
  · cases h; exact inf_of inf25
  · cases h; exact inf_of inf26
  · cases h; exact inf_of inf27
  · cases h; exact inf_of inf28
  · cases h; exact inf_of inf29
  · cases h; exact inf_of inf30
  · cases h; exact inf_of inf32
  · cases h; exact inf_of inf34
  · cases h; exact inf_of inf35
  · cases h; exact inf_of inf36
  · cases h; exact inf_of inf37
  · cases h; exact inf_of inf38
  · cases h; exact inf_of inf39
  · cases h; exact inf_of inf40
  · cases h; exact inf_of inf41
  · cases h; exact inf_of inf43
  · cases h; exact inf_of inf45
  · cases h; exact inf_of inf46
  · cases h; exact inf_of inf47
  · cases h; exact inf_of inf48
  · cases h; exact inf_of inf49
  · cases h; exact inf_of inf50
  · cases h; exact inf_of inf51
  · cases h; exact inf_of inf52
  · cases h; exact inf_of inf53
  · cases h; exact inf_of inf54
  · cases h; exact inf_of inf55
  · cases h; exact inf_of inf56
  · cases h; exact inf_of inf57
  · cases h; exact inf_of inf58
  · cases h; exact inf_of inf59
  · cases h; exact inf_of inf60
  · cases h; exact inf_of inf61
  · cases h; exact inf_of inf62
  · cases h; exact inf_of inf63
  · cases h; exact inf_of inf64
  · cases h; exact inf_of inf65
  · cases h; exact inf_of inf66
  · cases h; exact inf_of inf67
  · cases h; exact inf_of inf68
  · cases h; exact inf_of inf69
  · cases h; exact inf_of inf70
  · cases h; exact inf_of inf71
  · cases h; exact inf_of inf72
  · cases h; exact inf_of inf73
  · cases h; exact inf_of inf74
  · cases h; exact inf_of inf76
  · cases h; exact inf_of inf78
  · cases h; exact inf_of inf79
  · cases h; exact inf_of inf81
  · cases h; exact inf_of inf82
  · cases h; exact inf_of inf83
  · cases h; exact inf_of inf85
  · cases h; exact inf_of inf86
  · cases h; exact inf_of inf87
  · cases h; exact inf_of inf88
  · cases h; exact inf_of inf89
  · cases h; exact inf_of inf90
  · cases h; exact inf_of inf91
  · cases h; exact inf_of inf92
  · cases h; exact inf_of inf93
  · cases h; exact inf_of inf94
  · cases h; exact inf_of inf95
  · cases h; exact inf_of inf96
  · cases h; exact inf_of inf98
  · cases h; exact inf_of inf99
  · cases h; exact inf_of inf100
  · cases h; exact inf_of inf102
  · cases h; exact inf_of inf103
  · cases h; exact inf_of inf104
  · cases h; exact inf_of inf105
  · cases h; exact inf_of inf106
  · cases h; exact inf_of inf107
  · cases h; exact inf_of inf108
  · cases h; exact inf_of inf110
  · cases h; exact inf_of inf111
  · cases h; exact inf_of inf112
  · cases h; exact inf_of inf113
  · cases h; exact inf_of inf114
  · cases h; exact inf_of inf115
  · cases h; exact inf_of inf117
  · cases h; exact inf_of inf118
  · cases h; exact inf_of inf119
  · cases h; exact inf_of inf120
  · cases h; exact inf_of inf121
  · cases h; exact inf_of inf122
  · cases h; exact inf_of inf123
  · cases h; exact inf_of inf124
  · cases h; exact inf_of inf125
  · cases h; exact inf_of inf126
  · cases h; exact inf_of inf127
  · cases h; exact inf_of inf128
  · cases h; exact inf_of inf129
  · cases h; exact inf_of inf130
  · cases h; exact inf_of inf131
  · cases h; exact inf_of inf132
  · cases h; exact inf_of inf134
  · cases h; exact inf_of inf135
  · cases h; exact inf_of inf136
  · cases h; exact inf_of inf138
  · cases h; exact inf_of inf139
  · cases h; exact inf_of inf140
  · cases h; exact inf_of inf141
  · cases h; exact inf_of inf143
  · cases h; exact inf_of inf144
  · cases h; exact inf_of inf145
  · cases h; exact inf_of inf146
  · cases h; exact inf_of inf147
  · cases h; exact inf_of inf149
  · cases h; exact inf_of inf150
  · cases h; exact inf_of inf156
  · cases h; exact inf_of inf160
  · cases h
theorem lay25 : ∃ fs, Tryz.prog.underlying 25 = some (.struct fs) ∧ fs.toList.mapM (fun f => (Tryz.prog.info? f.type).map fun i => (f.offset, i.size)) = some [(0, 1), (1, 1), (2, 1), (3, 1), (4, 1), (5, 1)] := ⟨_, Tryz.underlying25, by kernel_rfl⟩
theorem lay26 : ∃ fs, Tryz.prog.underlying 26 = some (.struct fs) ∧ fs.toList.mapM (fun f => (Tryz.prog.info? f.type).map fun i => (f.offset, i.size)) = some [(0, 1), (1, 1), (2, 1), (3, 1), (4, 1), (5, 1)] := ⟨_, Tryz.underlying26, by kernel_rfl⟩
theorem lay38 : ∃ fs, Tryz.prog.underlying 38 = some (.struct fs) ∧ fs.toList.mapM (fun f => (Tryz.prog.info? f.type).map fun i => (f.offset, i.size)) = some [(0, 1), (1, 1)] := ⟨_, Tryz.underlying38, by kernel_rfl⟩
theorem lay39 : ∃ fs, Tryz.prog.underlying 39 = some (.struct fs) ∧ fs.toList.mapM (fun f => (Tryz.prog.info? f.type).map fun i => (f.offset, i.size)) = some [(0, 1), (1, 1)] := ⟨_, Tryz.underlying39, by kernel_rfl⟩
theorem lay41 : ∃ fs, Tryz.prog.underlying 41 = some (.struct fs) ∧ fs.toList.mapM (fun f => (Tryz.prog.info? f.type).map fun i => (f.offset, i.size)) = some [(0, 1), (1, 1)] := ⟨_, Tryz.underlying41, by kernel_rfl⟩
theorem lay54 : ∃ fs, Tryz.prog.underlying 54 = some (.struct fs) ∧ fs.toList.mapM (fun f => (Tryz.prog.info? f.type).map fun i => (f.offset, i.size)) = some [(0, 1), (1, 1)] := ⟨_, Tryz.underlying54, by kernel_rfl⟩
theorem lay55 : ∃ fs, Tryz.prog.underlying 55 = some (.struct fs) ∧ fs.toList.mapM (fun f => (Tryz.prog.info? f.type).map fun i => (f.offset, i.size)) = some [(0, 1), (1, 1)] := ⟨_, Tryz.underlying55, by kernel_rfl⟩
theorem lay57 : ∃ fs, Tryz.prog.underlying 57 = some (.struct fs) ∧ fs.toList.mapM (fun f => (Tryz.prog.info? f.type).map fun i => (f.offset, i.size)) = some [(0, 1), (1, 1)] := ⟨_, Tryz.underlying57, by kernel_rfl⟩
theorem lay58 : ∃ fs, Tryz.prog.underlying 58 = some (.struct fs) ∧ fs.toList.mapM (fun f => (Tryz.prog.info? f.type).map fun i => (f.offset, i.size)) = some [(0, 1), (1, 1)] := ⟨_, Tryz.underlying58, by kernel_rfl⟩
theorem lay61 : ∃ fs, Tryz.prog.underlying 61 = some (.struct fs) ∧ fs.toList.mapM (fun f => (Tryz.prog.info? f.type).map fun i => (f.offset, i.size)) = some [(0, 1), (1, 1)] := ⟨_, Tryz.underlying61, by kernel_rfl⟩
theorem lay62 : ∃ fs, Tryz.prog.underlying 62 = some (.struct fs) ∧ fs.toList.mapM (fun f => (Tryz.prog.info? f.type).map fun i => (f.offset, i.size)) = some [(0, 1), (1, 1)] := ⟨_, Tryz.underlying62, by kernel_rfl⟩
theorem tabL_ok : ∀ t l, tabL t = some l → ∃ fs, Tryz.prog.underlying t = some (.struct fs) ∧ fs.toList.mapM (fun f => (Tryz.prog.info? f.type).map fun i => (f.offset, i.size)) = some l := by
  intro t l h
  unfold tabL at h
  split at h
  · cases h; exact lay25
  · cases h; exact lay26
  · cases h; exact lay38
  · cases h; exact lay39
  · cases h; exact lay41
  · cases h; exact lay54
  · cases h; exact lay55
  · cases h; exact lay57
  · cases h; exact lay58
  · cases h; exact lay61
  · cases h; exact lay62
  · cases h
theorem tabL_pos : ∀ t l, tabL t = some l → l.all (fun x => x.2 != 0) = true := by
  intro t l h
  unfold tabL at h
  split at h
  · cases h; rfl
  · cases h; rfl
  · cases h; rfl
  · cases h; rfl
  · cases h; rfl
  · cases h; rfl
  · cases h; rfl
  · cases h; rfl
  · cases h; rfl
  · cases h; rfl
  · cases h; rfl
  · cases h
theorem mapM_get {P : Program} : ∀ (fs : List Field) (l : List (Nat × Nat)), fs.mapM (fun f => (P.info? f.type).map fun i => (f.offset, i.size)) = some l → ∀ (j : Nat) (x : Nat × Nat), l[j]? = some x → ∃ fl i, fs[j]? = some fl ∧ P.info? fl.type = some i ∧ fl.offset = x.1 ∧ i.size = x.2
  | [], l, h, j, x, hx => by simp at h; subst h; simp at hx
  | f :: fs, l, h, j, x, hx => by
    simp only [List.mapM_cons, Option.bind_eq_bind, Option.pure_def] at h
    cases hi : P.info? f.type with
    | none => simp [hi] at h
    | some i =>
      cases hr : fs.mapM (fun f => (P.info? f.type).map fun i => (f.offset, i.size)) with
      | none => simp [hi, hr] at h
      | some rest =>
        simp [hi, hr] at h
        subst h
        cases j with
        | zero => simp at hx; subst hx; exact ⟨f, i, rfl, hi, rfl, rfl⟩
        | succ j => simpa using mapM_get fs rest hr j x (by simpa using hx)
theorem tabF_ok : ∀ t j o, tabF t j = some o → ∃ fs fl i, Tryz.prog.underlying t = some (.struct fs) ∧ fs[j]? = some fl ∧ fl.offset = o ∧ Tryz.prog.info? fl.type = some i ∧ i.size ≠ 0 := by
  intro t j o h
  unfold tabF at h
  obtain ⟨l, h1, h2⟩ := Option.bind_eq_some_iff.1 h
  obtain ⟨x, h3, rfl⟩ := Option.map_eq_some_iff.1 h2
  obtain ⟨fs, h4, h5⟩ := tabL_ok t l h1
  obtain ⟨fl, i, h6, h7, h8, h9⟩ := mapM_get fs.toList l h5 j x h3
  refine ⟨fs, fl, i, h4, by simpa using h6, h8, h7, ?_⟩
  have := List.all_eq_true.1 (tabL_pos t l h1) x (List.mem_of_getElem? h3)
  rw [h9]
  simpa using this
theorem eqCl (a b c d : Int) (w : World) : (Op.equalIn 10000 55 (.agg #[.int .u32 a, .int .u32 b]) (.agg #[.int .u32 c, .int .u32 d])).run Tryz.prog w = .ok (a == c && b == d) w := by
  have u := Tryz.underlying53
  have hS : Tryz.prog.underlying 55 = some (.struct (Tryz.prog.fieldsOf 55)) := by kernel_rfl
  have hp : Tryz.prog.stoodInHeld 55 = false := by kernel_rfl
  obtain ⟨i, h1, h2⟩ : ∃ i, Tryz.prog.info? 53 = some i ∧ i.size = 1 := by
    obtain ⟨i, h1, h2⟩ := Option.map_eq_some_iff.1 (show (Tryz.prog.info? 53).map (fun i => i.size) = some 1 by kernel_rfl)
    exact ⟨i, h1, h2⟩
  have hz : ∀ w, (sizeOf 53).run Tryz.prog w = .ok 1 w := fun w => by simp [sizeOf, typeInfo, h1, h2]
  rw [show (10000 : Nat) = 9999 + 1 from rfl, run_equalIn_agg w 9999 55 _ _ hS hp]
  simp only [Program.fieldsOf, Tryz.underlying55]
  have hA : ∀ w, (isAgg 53).run Tryz.prog w = .ok false w := fun w => by simp [isAgg, run_underlying u]
  have e : ∀ (a c : Int) (w : World), (Op.equalIn 9999 53 (.int .u32 a) (.int .u32 c)).run Tryz.prog w = .ok (a == c) w := fun a c w => run_equalIn_int w 9998 53 .u32 .u32 a c u
  simp [Op.eqFields, part, hA, hz, e]
  by_cases h1 : a = c <;> by_cases h2 : b = d <;> simp [h1, h2]
instance : Go.Hy.Tab Tryz.prog := ⟨tabU, tabU_ok, tabI, tabI_ok, tabF, tabF_ok, tabL, tabL_ok, by kernel_rfl, 55, eqCl, by kernel_rfl⟩
noncomputable def fC' : Array Field := match Tryz.prog.underlying 55 with | some (.struct fs) => fs | _ => #[]
noncomputable def fT' : Array Field := match Tryz.prog.underlying 26 with | some (.struct fs) => fs | _ => #[]
noncomputable def fB' : Array Field := match Tryz.prog.underlying 58 with | some (.struct fs) => fs | _ => #[]
noncomputable instance : Go.Hy.TyF Tryz.prog := { tI := 3, tS := 9, tU := 53, tC := 55, tT := 26, tB := 58, lC := 22, lT := 23, lB := 24, fC := fC', fT := fT', fB := fB', uI := Tryz.underlying3, uS := Tryz.underlying9, uU := Tryz.underlying53, uC := by kernel_rfl, uT := by kernel_rfl, uB := by kernel_rfl, ulC := Tryz.underlying22, ulT := Tryz.underlying23, ulB := Tryz.underlying24, pC := by kernel_rfl, pT := by kernel_rfl, pB := by kernel_rfl, c1 := ⟨by kernel_rfl, by kernel_rfl, by kernel_rfl, by kernel_rfl, by kernel_rfl, by kernel_rfl⟩, c2 := ⟨by kernel_rfl, by kernel_rfl, by kernel_rfl⟩, b2 := ⟨by kernel_rfl, by kernel_rfl, by kernel_rfl⟩ }
theorem laid' : laidOutB Tryz.prog = true := by kernel_rfl
noncomputable instance : Go.Hy.TabM Tryz.prog := { law := deep_law_laid laid' (m := 3) (by omega) (of_decide_eq_true (by kernel_rfl)) (by kernel_rfl) (by kernel_rfl), kt := by kernel_rfl, names := by kernel_rfl, npos := of_decide_eq_true (by kernel_rfl) }
end Go.Proofs.YtceegbilhbhibaaGreat.Hy
namespace Go.Hy
open Go.Proofs
set_option maxRecDepth 100000
/-- What a kid binds. -/
theorem binds_spec (k i : Int) : Spec Tryz.prog 50 #[.int .i64 k, .int .i64 i] [] [] (fun _ : Unit => .tuple #[.int .i64 (binds k i).1, .int .i64 (binds k i).2]) (fun _ => []) (fun _ => []) := by
  refine spec_go (args := [.int .i64 k, .int .i64 i]) Tryz.func50 Tryz.ntmps50 rfl (by exact Nat.le_of_ble_eq_true rfl) fun B hB => ?_
  refine go_seq ?_; refine go_region ⟨_, Tryz.func50⟩ rfl ?_; refine q0 rfl (o_assign ?_); refine q0 rfl (o_assign ?_); refine rg_nil ?_; refine go_seq ?_; refine go_seq ?_; refine go_region ⟨_, Tryz.func50⟩ rfl ?_; refine q0 rfl (o_move ?_); refine rg_nil ?_; refine go_block ?_; refine go_seq ?_; refine go_block ?_; refine go_seq ?_; refine go_block ?_; refine go_block ?_; refine go_block ?_; refine go_seq ?_; refine go_block ?_; refine go_seq ?_; refine go_seq ?_; refine go_seq ?_; refine go_seq ?_; refine go_region ⟨_, Tryz.func50⟩ rfl ?_; refine q0 rfl (o_eqI ?_); refine q0 rfl (o_assign ?_); refine rg_nil ?_; refine go_condI (fun h7 => ?_) (fun h7 => ?_)
  · refine go_skip ?_; refine go_condT ?_; refine go_exit rfl ?_; refine go_seq ?_; refine go_seq ?_; refine go_region ⟨_, Tryz.func50⟩ rfl ?_; refine q0 rfl (o_move ?_); refine q0 rfl (o_eqI ?_); refine rg_nil ?_; refine go_condI (fun h21 => ?_) (fun h21 => ?_)
    · refine go_seq ?_; refine go_region ⟨_, Tryz.func50⟩ rfl ?_; refine q0 rfl (o_assign ?_); refine q0 rfl (o_assign ?_); refine rg_nil ?_; refine ret2 Tryz.func50 Tryz.results50 wn_ wn_ () (by simp_all [binds]) (fun w hs => hs.none)
    · refine go_skip ?_; refine go_exit rfl ?_; refine go_seq ?_; refine go_region ⟨_, Tryz.func50⟩ rfl ?_; refine q0 rfl (o_assign ?_); refine q0 rfl (o_assign ?_); refine rg_nil ?_; refine ret2 Tryz.func50 Tryz.results50 wn_ wn_ () (by simp_all [binds]) (fun w hs => hs.none)
  · refine go_region ⟨_, Tryz.func50⟩ rfl ?_; refine q0 rfl (o_eqI ?_); refine q0 rfl (o_assign ?_); refine rg_nil ?_; refine go_condI (fun h7 => ?_) (fun h7 => ?_)
    · refine go_exit rfl ?_; refine go_seq ?_; refine go_seq ?_; refine go_region ⟨_, Tryz.func50⟩ rfl ?_; refine q0 rfl (o_move ?_); refine q0 rfl (o_eqI ?_); refine rg_nil ?_; refine go_condI (fun h21 => ?_) (fun h21 => ?_)
      · refine go_seq ?_; refine go_region ⟨_, Tryz.func50⟩ rfl ?_; refine q0 rfl (o_assign ?_); refine q0 rfl (o_assign ?_); refine rg_nil ?_; refine ret2 Tryz.func50 Tryz.results50 wn_ wn_ () (by simp_all [binds]) (fun w hs => hs.none)
      · refine go_skip ?_; refine go_exit rfl ?_; refine go_seq ?_; refine go_region ⟨_, Tryz.func50⟩ rfl ?_; refine q0 rfl (o_assign ?_); refine q0 rfl (o_assign ?_); refine rg_nil ?_; refine ret2 Tryz.func50 Tryz.results50 wn_ wn_ () (by simp_all [binds]) (fun w hs => hs.none)
    · refine go_skip ?_; refine go_seq ?_; refine go_seq ?_; refine go_region ⟨_, Tryz.func50⟩ rfl ?_; refine q0 rfl (o_eqI ?_); refine q0 rfl (o_assign ?_); refine rg_nil ?_; refine go_condI (fun h10 => ?_) (fun h10 => ?_)
      · refine go_exit rfl ?_; refine go_inBlock ?_; refine go_inBlock ?_; refine go_seq ?_; refine go_seq ?_; refine go_region ⟨_, Tryz.func50⟩ rfl ?_; refine q0 rfl (o_move ?_); refine q0 rfl (o_eqI ?_); refine rg_nil ?_; refine go_condI (fun h23 => ?_) (fun h23 => ?_)
        · refine go_seq ?_; refine go_region ⟨_, Tryz.func50⟩ rfl ?_; refine q0 rfl (o_assign ?_); refine q0 rfl (o_assign ?_); refine rg_nil ?_; refine ret2 Tryz.func50 Tryz.results50 wn_ wn_ () (by simp_all [binds]) (fun w hs => hs.none)
        · refine go_skip ?_; refine go_exit rfl ?_; refine go_seq ?_; refine go_region ⟨_, Tryz.func50⟩ rfl ?_; refine q0 rfl (o_assign ?_); refine q0 rfl (o_assign ?_); refine rg_nil ?_; refine ret2 Tryz.func50 Tryz.results50 wn_ wn_ () (by simp_all [binds]) (fun w hs => hs.none)
      · refine go_skip ?_; refine go_seq ?_; refine go_seq ?_; refine go_region ⟨_, Tryz.func50⟩ rfl ?_; refine q0 rfl (o_eqI ?_); refine q0 rfl (o_assign ?_); refine rg_nil ?_; refine go_condI (fun h12 => ?_) (fun h12 => ?_)
        · refine go_exit rfl ?_; refine go_inBlock ?_; refine go_seq ?_; refine go_seq ?_; refine go_region ⟨_, Tryz.func50⟩ rfl ?_; refine q0 rfl (o_move ?_); refine q0 rfl (o_eqI ?_); refine rg_nil ?_; refine go_condI (fun h23 => ?_) (fun h23 => ?_)
          · refine go_seq ?_; refine go_region ⟨_, Tryz.func50⟩ rfl ?_; refine q0 rfl (o_assign ?_); refine q0 rfl (o_assign ?_); refine rg_nil ?_; refine ret2 Tryz.func50 Tryz.results50 wn_ wn_ () (by simp_all [binds]) (fun w hs => hs.none)
          · refine go_skip ?_; refine go_exit rfl ?_; refine go_seq ?_; refine go_region ⟨_, Tryz.func50⟩ rfl ?_; refine q0 rfl (o_assign ?_); refine q0 rfl (o_assign ?_); refine rg_nil ?_; refine ret2 Tryz.func50 Tryz.results50 wn_ wn_ () (by simp_all [binds]) (fun w hs => hs.none)
        · refine go_skip ?_; refine go_seq ?_; refine go_seq ?_; refine go_region ⟨_, Tryz.func50⟩ rfl ?_; refine q0 rfl (o_eqI ?_); refine q0 rfl (o_assign ?_); refine rg_nil ?_; refine go_condI (fun h14 => ?_) (fun h14 => ?_)
          · refine go_exit rfl ?_; refine go_seq ?_; refine go_seq ?_; refine go_region ⟨_, Tryz.func50⟩ rfl ?_; refine q0 rfl (o_move ?_); refine q0 rfl (o_eqI ?_); refine rg_nil ?_; refine go_condI (fun h23 => ?_) (fun h23 => ?_)
            · refine go_seq ?_; refine go_region ⟨_, Tryz.func50⟩ rfl ?_; refine q0 rfl (o_assign ?_); refine q0 rfl (o_assign ?_); refine rg_nil ?_; refine ret2 Tryz.func50 Tryz.results50 wn_ wn_ () (by simp_all [binds]) (fun w hs => hs.none)
            · refine go_skip ?_; refine go_exit rfl ?_; refine go_seq ?_; refine go_region ⟨_, Tryz.func50⟩ rfl ?_; refine q0 rfl (o_assign ?_); refine q0 rfl (o_assign ?_); refine rg_nil ?_; refine ret2 Tryz.func50 Tryz.results50 wn_ wn_ () (by simp_all [binds]) (fun w hs => hs.none)
          · refine go_skip ?_; refine go_seq ?_; refine go_seq ?_; refine go_region ⟨_, Tryz.func50⟩ rfl ?_; refine q0 rfl (o_eqI ?_); refine q0 rfl (o_assign ?_); refine rg_nil ?_; refine go_condI (fun h16 => ?_) (fun h16 => ?_)
            · refine go_skip ?_; refine go_condT ?_; refine go_exit rfl ?_; refine go_seq ?_; refine go_seq ?_; refine go_region ⟨_, Tryz.func50⟩ rfl ?_; refine q0 rfl (o_move ?_); refine q0 rfl (o_eqI ?_); refine rg_nil ?_; refine go_condI (fun h25 => ?_) (fun h25 => ?_)
              · refine go_seq ?_; refine go_region ⟨_, Tryz.func50⟩ rfl ?_; refine q0 rfl (o_assign ?_); refine q0 rfl (o_assign ?_); refine rg_nil ?_; refine ret2 Tryz.func50 Tryz.results50 wn_ wn_ () (by simp_all [binds]) (fun w hs => hs.none)
              · refine go_skip ?_; refine go_exit rfl ?_; refine go_seq ?_; refine go_region ⟨_, Tryz.func50⟩ rfl ?_; refine q0 rfl (o_assign ?_); refine q0 rfl (o_assign ?_); refine rg_nil ?_; refine ret2 Tryz.func50 Tryz.results50 wn_ wn_ () (by simp_all [binds]) (fun w hs => hs.none)
            · refine go_seq ?_; refine go_region ⟨_, Tryz.func50⟩ rfl ?_; refine q0 rfl (o_eqI ?_); refine q0 rfl (o_assign ?_); refine rg_nil ?_; refine go_condI (fun h16 => ?_) (fun h16 => ?_)
              · refine go_skip ?_; refine go_condT ?_; refine go_exit rfl ?_; refine go_seq ?_; refine go_seq ?_; refine go_region ⟨_, Tryz.func50⟩ rfl ?_; refine q0 rfl (o_move ?_); refine q0 rfl (o_eqI ?_); refine rg_nil ?_; refine go_condI (fun h25 => ?_) (fun h25 => ?_)
                · refine go_seq ?_; refine go_region ⟨_, Tryz.func50⟩ rfl ?_; refine q0 rfl (o_assign ?_); refine q0 rfl (o_assign ?_); refine rg_nil ?_; refine ret2 Tryz.func50 Tryz.results50 wn_ wn_ () (by simp_all [binds]) (fun w hs => hs.none)
                · refine go_skip ?_; refine go_exit rfl ?_; refine go_seq ?_; refine go_region ⟨_, Tryz.func50⟩ rfl ?_; refine q0 rfl (o_assign ?_); refine q0 rfl (o_assign ?_); refine rg_nil ?_; refine ret2 Tryz.func50 Tryz.results50 wn_ wn_ () (by simp_all [binds]) (fun w hs => hs.none)
              · refine go_region ⟨_, Tryz.func50⟩ rfl ?_; refine q0 rfl (o_eqI ?_); refine q0 rfl (o_assign ?_); refine rg_nil ?_; refine go_condI (fun h16 => ?_) (fun h16 => ?_)
                · refine go_exit rfl ?_; refine go_seq ?_; refine go_seq ?_; refine go_region ⟨_, Tryz.func50⟩ rfl ?_; refine q0 rfl (o_move ?_); refine q0 rfl (o_eqI ?_); refine rg_nil ?_; refine go_condI (fun h25 => ?_) (fun h25 => ?_)
                  · refine go_seq ?_; refine go_region ⟨_, Tryz.func50⟩ rfl ?_; refine q0 rfl (o_assign ?_); refine q0 rfl (o_assign ?_); refine rg_nil ?_; refine ret2 Tryz.func50 Tryz.results50 wn_ wn_ () (by simp_all [binds]) (fun w hs => hs.none)
                  · refine go_skip ?_; refine go_exit rfl ?_; refine go_seq ?_; refine go_region ⟨_, Tryz.func50⟩ rfl ?_; refine q0 rfl (o_assign ?_); refine q0 rfl (o_assign ?_); refine rg_nil ?_; refine ret2 Tryz.func50 Tryz.results50 wn_ wn_ () (by simp_all [binds]) (fun w hs => hs.none)
                · refine go_skip ?_; refine go_exit rfl ?_; refine go_seq ?_; refine go_region ⟨_, Tryz.func50⟩ rfl ?_; refine q0 rfl (o_assign ?_); refine q0 rfl (o_assign ?_); refine rg_nil ?_; refine ret2 Tryz.func50 Tryz.results50 wn_ wn_ () (by simp_all [binds]) (fun w hs => hs.none)
theorem each_spec (t : T) (vr vk vs : SH) (c : FuncId) (cap : List Value) (FΓ : List Fact) (SM SF : Nat → List Res) (β : Nat → Bool)
    (hc : ∀ (args : Array Value) (w : World), (callFunc c args).run Tryz.prog w = .ok (.enter c args) w)
    (hcl : ∀ m k v d, (parts t)[m]? = some (k, v, d) → (∀ j, j < m → β j = true) → ∀ vr vk vs, Spec Tryz.prog c (.agg (tc k vr vk vs).toArray :: .int .i64 v :: .int .i64 d :: cap).toArray (RT k vr vk vs :: FΓ) (SM m) (fun _ : Unit => .bool (β m)) (fun _ => []) (fun _ => if β m then SM (m + 1) else SF m)) :
    Spec Tryz.prog 73 #[.agg (tc t vr vk vs).toArray, .func (.func c) #[] cap.toArray] (RT t vr vk vs :: FΓ) (SM 0) (fun _ : Unit => .bool (ff β (parts t).length == (parts t).length)) (fun _ => []) (fun _ => if ff β (parts t).length = (parts t).length then SM (parts t).length else SF (ff β (parts t).length)) := by
  refine spec_go (args := [.agg (tc t vr vk vs).toArray, .func (.func c) #[] cap.toArray]) Tryz.func73 Tryz.ntmps73 rfl (by exact Nat.le_of_ble_eq_true rfl) fun B hB => ?_
  refine go_open (fun hk hn hnm => ?_); refine go_openTL (ts := t.kids) (fun VR VK VS hl1 hA1 => ?_); refine go_openBL (bs := t.sys) (fun VF VK2 hl2 hA2 => ?_); have hpl := parts_length t; refine go_seq ?_; refine go_region ⟨_, Tryz.func73⟩ rfl ?_; refine q0 rfl (o_box fun b2 => ?_); refine q0 rfl (o_assign ?_); refine rg_nil ?_; refine go_seq ?_; refine go_seq ?_; refine go_region ⟨_, Tryz.func73⟩ rfl ?_; refine q0 rfl (o_fa ?_); refine q0 rfl (o_ld ?_); refine q0 rfl (o_len ?_); refine q0 rfl (o_move ?_); refine rg_nil ?_; refine go_block ?_; refine go_loopI (X := Nat) (fun i => i ≤ t.kids.length ∧ ∀ j, j < i → β j = true) (fun i => [(1, .func (.func c) #[] cap.toArray), (2, .pointer (some ⟨b2, 0, none⟩)), (15, sl vk t.kids.length), (16, .int .i64 (t.kids.length : Int)), (17, .int .i64 (i : Int))]) (fun i => TLx t.kids vk VR VK VS :: BLx t.sys vs VF VK2 :: RT t vr vk vs :: FΓ) (fun i => boxR b2 (tc t vr vk vs) 26 :: SM i) (fun i => t.kids.length - i) (0) (⟨Nat.zero_le _, fun j hj => by omega⟩) (by exact ⟨rfl, rfl, rfl, rfl, rfl, trivial⟩) ?_ ?_
  · exact fun w hs => hs.less (by simp +contextual)
  · intro i base0 ⟨hi, hβ⟩ next0; refine go_seq ?_; refine go_region ⟨_, Tryz.func73⟩ rfl ?_; refine q0 rfl (o_lss ?_); refine rg_nil ?_; refine go_seq ?_; refine go_condI (fun h18 => ?_) (fun h18 => ?_)
    · have hlt : i < t.kids.length := by have := of_decide_eq_true h18; omega
      obtain ⟨bk, o, hav⟩ := hA1 (by omega); refine go_skip ?_; refine go_seq ?_; refine go_block ?_; refine go_seq ?_; refine go_region ⟨_, Tryz.func73⟩ rfl ?_; refine q0 rfl (o_move ?_); refine q0 rfl (o_ixN ?_); refine q0 rfl (o_ldT ?_); refine q0 rfl (o_new fun b6 => ?_); refine q0 rfl (o_assign ?_); refine q0 rfl (o_st ?_); refine rg_nil ?_; refine go_seq ?_; refine go_kid i hlt ?_; refine go_region ⟨_, Tryz.func73⟩ rfl ?_; have hpk := parts_kid t i hlt; refine q0 rfl (o_fa ?_); refine q0 rfl (o_ld ?_); refine q0 rfl (o_move ?_); refine q0 rfl (o_call Tryz.call50 (binds_spec t.kind i) (fun x26 => ?_)); refine q0 rfl (o_move ?_); refine q0 rfl (o_extract ?_); refine q0 rfl (o_extract ?_); refine q0 rfl (o_assign ?_); refine q0 rfl (o_assign ?_); refine rg_nil ?_; refine go_seq ?_; refine go_region ⟨_, Tryz.func73⟩ rfl ?_; refine q0 rfl (o_move ?_); refine q0 rfl (o_lds ?_); refine q0 rfl (o_move ?_); refine q0 rfl (o_move ?_); refine q0 rfl (o_callC hc (hcl i _ _ _ hpk hβ _ _ _) (fun x33 => ?_)); refine q0 rfl (o_not ?_); refine rg_nil ?_; refine go_condI (fun h34 => ?_) (fun h34 => ?_)
      · have hβf : β i = false := by simpa using h34
        refine go_seq ?_; refine go_region ⟨_, Tryz.func73⟩ rfl ?_; refine q0 rfl (o_assign ?_); refine rg_nil ?_; have hff := ff_stop hβf hβ (n := (parts t).length) (by omega); refine ret1 Tryz.func73 Tryz.results73 wn_ () (by simp [hff]; omega) (fun w hs => by rw [hff, if_neg (by omega)]; simp only [hβf, Bool.false_eq_true, if_false] at hs; exact (hs.less (by simp)).dropR)
      · refine go_skip ?_; refine go_inBlock ?_; refine go_region ⟨_, Tryz.func73⟩ rfl ?_; refine q0 rfl (o_add ?_); refine q0 rfl (o_move ?_); refine rg_nil ?_; have hβt : β i = true := by simpa using h34
        refine go_state (fun w hs => ?_) (next0 (i + 1) _ ⟨hlt, fun j hj => (by rcases Nat.lt_succ_iff_lt_or_eq.mp hj with h | h; exact hβ j h; subst h; exact hβt)⟩ (by omega) ⟨rfl, rfl, rfl, rfl, rfl, trivial⟩); simp only [hβt, if_true] at hs; exact ((hs.less (by simp +contextual)).perm List.perm_append_comm).drop
    · have hge : i = t.kids.length := by have := of_decide_eq_false h18; omega
      refine go_exit rfl ?_; refine go_seq ?_; refine go_region ⟨_, Tryz.func73⟩ rfl ?_; refine q0 rfl (o_assign ?_); refine rg_nil ?_; refine go_seq ?_; refine go_seq ?_; refine go_region ⟨_, Tryz.func73⟩ rfl ?_; refine q0 rfl (o_fa ?_); refine q0 rfl (o_ld ?_); refine q0 rfl (o_eqI ?_); refine rg_nil ?_; refine go_cutS ([(1, .func (.func c) #[] cap.toArray), (2, .pointer (some ⟨b2, 0, none⟩)), (9, .int .i64 (more t.kind))]) (fun hK => ?_) (fun base => ?_)
      · refine go_condI (fun h38 => ?_) (fun h38 => ?_)
        · refine go_region ⟨_, Tryz.func73⟩ rfl ?_; refine q0 rfl (o_assign ?_); refine rg_nil ?_; exact hK _ ⟨rfl, rfl, by first | (rw [more, if_pos (of_decide_eq_true h38)]; rfl) | (rw [more, if_neg (of_decide_eq_false h38)]; rfl), trivial⟩
        · refine go_skip ?_; exact hK _ ⟨rfl, rfl, by first | (rw [more, if_pos (of_decide_eq_true h38)]; rfl) | (rw [more, if_neg (of_decide_eq_false h38)]; rfl), trivial⟩
      · refine go_seq ?_; refine go_seq ?_; refine go_region ⟨_, Tryz.func73⟩ rfl ?_; refine q0 rfl (o_fa ?_); refine q0 rfl (o_ld ?_); refine q0 rfl (o_len ?_); refine q0 rfl (o_move ?_); refine rg_nil ?_; refine go_block ?_; refine go_loopI (X := Nat) (fun i2 => i2 ≤ t.sys.length ∧ ∀ j, j < t.kids.length + sysBefore i2 t.sys → β j = true) (fun i2 => [(1, .func (.func c) #[] cap.toArray), (9, .int .i64 (more t.kind)), (40, sl vs t.sys.length), (41, .int .i64 (t.sys.length : Int)), (42, .int .i64 (i2 : Int))]) (fun i2 => BLx t.sys vs VF VK2 :: FΓ) (fun i2 => SM (t.kids.length + sysBefore i2 t.sys)) (fun i2 => t.sys.length - i2) (0) (⟨Nat.zero_le _, fun j hj => hβ j (by simp [sysBefore] at hj; omega)⟩) (by exact ⟨rfl, rfl, rfl, rfl, rfl, trivial⟩) ?_ ?_
        · exact fun w hs => (by simpa [sysBefore, show i = t.kids.length by omega] using (hs.drop.less (Γ' := BLx t.sys vs VF VK2 :: FΓ) (by simp +contextual)))
        · intro i2 base1 ⟨hi2, hβ2⟩ next1; refine go_seq ?_; refine go_region ⟨_, Tryz.func73⟩ rfl ?_; refine q0 rfl (o_lss ?_); refine rg_nil ?_; refine go_seq ?_; refine go_condI (fun h43 => ?_) (fun h43 => ?_)
          · have hlt2 : i2 < t.sys.length := by have := of_decide_eq_true h43; omega
            obtain ⟨bk2, o2, hav2⟩ := hA2 (by omega); refine go_skip ?_; refine go_seq ?_; refine go_block ?_; refine go_seq ?_; refine go_region ⟨_, Tryz.func73⟩ rfl ?_; refine q0 rfl (o_ixN ?_); refine q0 rfl (o_ldB ?_); refine q0 rfl (o_new fun b11 => ?_); refine q0 rfl (o_st ?_); refine rg_nil ?_; refine go_seq ?_; refine go_region ⟨_, Tryz.func73⟩ rfl ?_; refine q0 rfl (o_fa ?_); refine q0 rfl (o_ld ?_); refine q0 rfl (o_len ?_); refine q0 rfl (o_move ?_); refine rg_nil ?_; refine go_block ?_; refine go_branch i2 (by omega) ?_; refine go_openTL (ts := (t.sys.getD i2 br0).kids) (fun VR3 VK3 VS3 hl3 hA3 => ?_); refine go_loopI (X := Nat) (fun j => j ≤ (t.sys.getD i2 br0).kids.length ∧ ∀ m, m < t.kids.length + sysBefore i2 t.sys + j → β m = true) (fun j => [(1, .func (.func c) #[] cap.toArray), (9, .int .i64 (more t.kind)), (40, sl vs t.sys.length), (41, .int .i64 (t.sys.length : Int)), (42, .int .i64 ((i2 : Nat) : Int)), (47, sl (VK2 i2) (t.sys.getD i2 br0).kids.length), (48, .int .i64 ((t.sys.getD i2 br0).kids.length : Int)), (49, .int .i64 (j : Int))]) (fun j => TLx (t.sys.getD i2 br0).kids (VK2 i2) VR3 VK3 VS3 :: BLx t.sys vs VF VK2 :: FΓ) (fun j => SM (t.kids.length + sysBefore i2 t.sys + j)) (fun j => (t.sys.getD i2 br0).kids.length - j) (0) (⟨Nat.zero_le _, hβ2⟩) (by exact ⟨rfl, rfl, rfl, rfl, rfl, rfl, rfl, rfl, trivial⟩) ?_ ?_
            · exact fun w hs => (hs.less (by simp +contextual)).drop
            · intro j base2 ⟨hj, hβ3⟩ next2; refine go_seq ?_; refine go_region ⟨_, Tryz.func73⟩ rfl ?_; refine q0 rfl (o_lss ?_); refine rg_nil ?_; refine go_seq ?_; refine go_condI (fun h50 => ?_) (fun h50 => ?_)
              · have hlt3 : j < (t.sys.getD i2 br0).kids.length := by have := of_decide_eq_true h50; omega
                obtain ⟨bk3, o3, hav3⟩ := hA3 (by omega); have hps := parts_sys t i2 j hlt2 hlt3; refine go_kid j hlt3 ?_; refine go_skip ?_; refine go_seq ?_; refine go_block ?_; refine go_seq ?_; refine go_region ⟨_, Tryz.func73⟩ rfl ?_; refine q0 rfl (o_ixN ?_); refine q0 rfl (o_ldT ?_); refine q0 rfl (o_new fun b13 => ?_); refine q0 rfl (o_st ?_); refine rg_nil ?_; refine go_seq ?_; refine go_region ⟨_, Tryz.func73⟩ rfl ?_; refine q0 rfl (o_move ?_); refine q0 rfl (o_lds ?_); refine q0 rfl (o_move ?_); refine q0 rfl (o_callC hc (hcl _ _ _ _ hps hβ3 _ _ _) (fun x56 => ?_)); refine q0 rfl (o_not ?_); refine rg_nil ?_; refine go_condI (fun h57 => ?_) (fun h57 => ?_)
                · have hβf : β (t.kids.length + sysBefore i2 t.sys + j) = false := by simpa using h57
                  refine go_seq ?_; refine go_region ⟨_, Tryz.func73⟩ rfl ?_; refine q0 rfl (o_assign ?_); refine rg_nil ?_; have hbd := sysBefore_le hlt2 hlt3; have hff := ff_stop hβf hβ3 (n := (parts t).length) (by omega); refine ret1 Tryz.func73 Tryz.results73 wn_ () (by simp [hff]; omega) (fun w hs => by rw [hff, if_neg (by omega)]; simp only [hβf, Bool.false_eq_true, if_false] at hs; exact (hs.less (by simp)).dropR)
                · refine go_skip ?_; refine go_inBlock ?_; refine go_region ⟨_, Tryz.func73⟩ rfl ?_; refine q0 rfl (o_add ?_); refine q0 rfl (o_move ?_); refine rg_nil ?_; have hβt : β (t.kids.length + sysBefore i2 t.sys + j) = true := by simpa using h57
                  refine go_state (fun w hs => ?_) (next2 (j + 1) _ ⟨hlt3, fun j2 hj2 => (by rcases Nat.lt_succ_iff_lt_or_eq.mp hj2 with h | h; exact hβ3 j2 h; subst h; exact hβt)⟩ (by omega) ⟨rfl, rfl, rfl, rfl, rfl, rfl, rfl, rfl, trivial⟩); simp only [hβt, if_true] at hs; exact (hs.less (by simp +contextual)).dropR
              · have hge3 : j = (t.sys.getD i2 br0).kids.length := by have := of_decide_eq_false h50; omega
                refine go_exit rfl ?_; refine go_inBlock ?_; refine go_region ⟨_, Tryz.func73⟩ rfl ?_; refine q0 rfl (o_add ?_); refine q0 rfl (o_move ?_); refine rg_nil ?_; refine go_state (fun w hs => ?_) (next1 (i2 + 1) _ ⟨hlt2, by rw [sysBefore_succ i2 t.sys hlt2]; rw [hge3] at hβ3; simpa [Nat.add_assoc] using hβ3⟩ (by omega) ⟨rfl, rfl, rfl, rfl, rfl, trivial⟩); rw [hge3] at hs; simp only [sysBefore_succ i2 t.sys hlt2, ← Nat.add_assoc]; exact hs.less (by simp +contextual)
          · refine go_exit rfl ?_; refine go_seq ?_; refine go_region ⟨_, Tryz.func73⟩ rfl ?_; refine q0 rfl (o_assign ?_); refine rg_nil ?_; have hie : i2 = t.sys.length := by have := of_decide_eq_false h43; omega
            have hff := ff_all (β := β) (n := (parts t).length) (by rw [hpl, ← hie]; exact hβ2); refine ret1 Tryz.func73 Tryz.results73 wn_ () (by simp [hff]) (fun w hs => by rw [hff, if_pos rfl, hpl, ← hie]; exact hs.less (by simp))
end Go.Hy
namespace Go.Hy
open Go.Proofs
set_option maxRecDepth 100000
theorem kids_spec (k : Int) : Spec Tryz.prog 91 #[.int .i64 k] [] [] (fun _ : Unit => .int .i64 (kidsN k)) (fun _ => []) (fun _ => []) := by
  refine spec_go (args := [.int .i64 k]) Tryz.func91 Tryz.ntmps91 rfl (by exact Nat.le_of_ble_eq_true rfl) fun B hB => ?_
  refine go_seq ?_; refine go_region ⟨_, Tryz.func91⟩ rfl ?_; refine q0 rfl (o_assign ?_); refine rg_nil ?_; refine go_seq ?_; refine go_seq ?_; refine go_region ⟨_, Tryz.func91⟩ rfl ?_; refine q0 rfl (o_move ?_); refine rg_nil ?_; refine go_block ?_; refine go_seq ?_; refine go_seq ?_; refine go_region ⟨_, Tryz.func91⟩ rfl ?_; refine q0 rfl (o_eqI ?_); refine q0 rfl (o_assign ?_); refine rg_nil ?_; refine go_condI (fun h4 => ?_) (fun h4 => ?_)
  · refine go_skip ?_; refine go_condT ?_; refine go_seq ?_; refine go_region ⟨_, Tryz.func91⟩ rfl ?_; refine q0 rfl (o_assign ?_); refine rg_nil ?_; refine ret1 Tryz.func91 Tryz.results91 wn_ () (by simp_all [kidsN]) (fun w hs => hs.none)
  · refine go_seq ?_; refine go_region ⟨_, Tryz.func91⟩ rfl ?_; refine q0 rfl (o_eqI ?_); refine q0 rfl (o_assign ?_); refine rg_nil ?_; refine go_condI (fun h4 => ?_) (fun h4 => ?_)
    · refine go_skip ?_; refine go_condT ?_; refine go_seq ?_; refine go_region ⟨_, Tryz.func91⟩ rfl ?_; refine q0 rfl (o_assign ?_); refine rg_nil ?_; refine ret1 Tryz.func91 Tryz.results91 wn_ () (by simp_all [kidsN]) (fun w hs => hs.none)
    · refine go_seq ?_; refine go_region ⟨_, Tryz.func91⟩ rfl ?_; refine q0 rfl (o_eqI ?_); refine q0 rfl (o_assign ?_); refine rg_nil ?_; refine go_condI (fun h4 => ?_) (fun h4 => ?_)
      · refine go_skip ?_; refine go_condT ?_; refine go_seq ?_; refine go_region ⟨_, Tryz.func91⟩ rfl ?_; refine q0 rfl (o_assign ?_); refine rg_nil ?_; refine ret1 Tryz.func91 Tryz.results91 wn_ () (by simp_all [kidsN]) (fun w hs => hs.none)
      · refine go_seq ?_; refine go_region ⟨_, Tryz.func91⟩ rfl ?_; refine q0 rfl (o_eqI ?_); refine q0 rfl (o_assign ?_); refine rg_nil ?_; refine go_condI (fun h4 => ?_) (fun h4 => ?_)
        · refine go_skip ?_; refine go_condT ?_; refine go_seq ?_; refine go_region ⟨_, Tryz.func91⟩ rfl ?_; refine q0 rfl (o_assign ?_); refine rg_nil ?_; refine ret1 Tryz.func91 Tryz.results91 wn_ () (by simp_all [kidsN]) (fun w hs => hs.none)
        · refine go_seq ?_; refine go_region ⟨_, Tryz.func91⟩ rfl ?_; refine q0 rfl (o_eqI ?_); refine q0 rfl (o_assign ?_); refine rg_nil ?_; refine go_condI (fun h4 => ?_) (fun h4 => ?_)
          · refine go_skip ?_; refine go_condT ?_; refine go_seq ?_; refine go_region ⟨_, Tryz.func91⟩ rfl ?_; refine q0 rfl (o_assign ?_); refine rg_nil ?_; refine ret1 Tryz.func91 Tryz.results91 wn_ () (by simp_all [kidsN]) (fun w hs => hs.none)
          · refine go_seq ?_; refine go_region ⟨_, Tryz.func91⟩ rfl ?_; refine q0 rfl (o_eqI ?_); refine q0 rfl (o_assign ?_); refine rg_nil ?_; refine go_condI (fun h4 => ?_) (fun h4 => ?_)
            · refine go_skip ?_; refine go_condT ?_; refine go_seq ?_; refine go_region ⟨_, Tryz.func91⟩ rfl ?_; refine q0 rfl (o_assign ?_); refine rg_nil ?_; refine ret1 Tryz.func91 Tryz.results91 wn_ () (by simp_all [kidsN]) (fun w hs => hs.none)
            · refine go_seq ?_; refine go_region ⟨_, Tryz.func91⟩ rfl ?_; refine q0 rfl (o_eqI ?_); refine q0 rfl (o_assign ?_); refine rg_nil ?_; refine go_condI (fun h4 => ?_) (fun h4 => ?_)
              · refine go_skip ?_; refine go_condT ?_; refine go_seq ?_; refine go_region ⟨_, Tryz.func91⟩ rfl ?_; refine q0 rfl (o_assign ?_); refine rg_nil ?_; refine ret1 Tryz.func91 Tryz.results91 wn_ () (by simp_all [kidsN]) (fun w hs => hs.none)
              · refine go_region ⟨_, Tryz.func91⟩ rfl ?_; refine q0 rfl (o_eqI ?_); refine q0 rfl (o_assign ?_); refine rg_nil ?_; refine go_condI (fun h4 => ?_) (fun h4 => ?_)
                · refine go_seq ?_; refine go_region ⟨_, Tryz.func91⟩ rfl ?_; refine q0 rfl (o_assign ?_); refine rg_nil ?_; refine ret1 Tryz.func91 Tryz.results91 wn_ () (by simp_all [kidsN]) (fun w hs => hs.none)
                · refine go_seq ?_; refine go_seq ?_; refine go_region ⟨_, Tryz.func91⟩ rfl ?_; refine q0 rfl (o_eqI ?_); refine q0 rfl (o_assign ?_); refine rg_nil ?_; refine go_condI (fun h13 => ?_) (fun h13 => ?_)
                  · refine go_skip ?_; refine go_condT ?_; refine go_seq ?_; refine go_region ⟨_, Tryz.func91⟩ rfl ?_; refine q0 rfl (o_assign ?_); refine rg_nil ?_; refine ret1 Tryz.func91 Tryz.results91 wn_ () (by simp_all [kidsN]) (fun w hs => hs.none)
                  · refine go_seq ?_; refine go_region ⟨_, Tryz.func91⟩ rfl ?_; refine q0 rfl (o_eqI ?_); refine q0 rfl (o_assign ?_); refine rg_nil ?_; refine go_condI (fun h13 => ?_) (fun h13 => ?_)
                    · refine go_skip ?_; refine go_condT ?_; refine go_seq ?_; refine go_region ⟨_, Tryz.func91⟩ rfl ?_; refine q0 rfl (o_assign ?_); refine rg_nil ?_; refine ret1 Tryz.func91 Tryz.results91 wn_ () (by simp_all [kidsN]) (fun w hs => hs.none)
                    · refine go_seq ?_; refine go_region ⟨_, Tryz.func91⟩ rfl ?_; refine q0 rfl (o_eqI ?_); refine q0 rfl (o_assign ?_); refine rg_nil ?_; refine go_condI (fun h13 => ?_) (fun h13 => ?_)
                      · refine go_skip ?_; refine go_condT ?_; refine go_seq ?_; refine go_region ⟨_, Tryz.func91⟩ rfl ?_; refine q0 rfl (o_assign ?_); refine rg_nil ?_; refine ret1 Tryz.func91 Tryz.results91 wn_ () (by simp_all [kidsN]) (fun w hs => hs.none)
                      · refine go_seq ?_; refine go_region ⟨_, Tryz.func91⟩ rfl ?_; refine q0 rfl (o_eqI ?_); refine q0 rfl (o_assign ?_); refine rg_nil ?_; refine go_condI (fun h13 => ?_) (fun h13 => ?_)
                        · refine go_skip ?_; refine go_condT ?_; refine go_seq ?_; refine go_region ⟨_, Tryz.func91⟩ rfl ?_; refine q0 rfl (o_assign ?_); refine rg_nil ?_; refine ret1 Tryz.func91 Tryz.results91 wn_ () (by simp_all [kidsN]) (fun w hs => hs.none)
                        · refine go_seq ?_; refine go_region ⟨_, Tryz.func91⟩ rfl ?_; refine q0 rfl (o_eqI ?_); refine q0 rfl (o_assign ?_); refine rg_nil ?_; refine go_condI (fun h13 => ?_) (fun h13 => ?_)
                          · refine go_skip ?_; refine go_condT ?_; refine go_seq ?_; refine go_region ⟨_, Tryz.func91⟩ rfl ?_; refine q0 rfl (o_assign ?_); refine rg_nil ?_; refine ret1 Tryz.func91 Tryz.results91 wn_ () (by simp_all [kidsN]) (fun w hs => hs.none)
                          · refine go_seq ?_; refine go_region ⟨_, Tryz.func91⟩ rfl ?_; refine q0 rfl (o_eqI ?_); refine q0 rfl (o_assign ?_); refine rg_nil ?_; refine go_condI (fun h13 => ?_) (fun h13 => ?_)
                            · refine go_skip ?_; refine go_condT ?_; refine go_seq ?_; refine go_region ⟨_, Tryz.func91⟩ rfl ?_; refine q0 rfl (o_assign ?_); refine rg_nil ?_; refine ret1 Tryz.func91 Tryz.results91 wn_ () (by simp_all [kidsN]) (fun w hs => hs.none)
                            · refine go_seq ?_; refine go_region ⟨_, Tryz.func91⟩ rfl ?_; refine q0 rfl (o_eqI ?_); refine q0 rfl (o_assign ?_); refine rg_nil ?_; refine go_condI (fun h13 => ?_) (fun h13 => ?_)
                              · refine go_skip ?_; refine go_condT ?_; refine go_seq ?_; refine go_region ⟨_, Tryz.func91⟩ rfl ?_; refine q0 rfl (o_assign ?_); refine rg_nil ?_; refine ret1 Tryz.func91 Tryz.results91 wn_ () (by simp_all [kidsN]) (fun w hs => hs.none)
                              · refine go_seq ?_; refine go_region ⟨_, Tryz.func91⟩ rfl ?_; refine q0 rfl (o_eqI ?_); refine q0 rfl (o_assign ?_); refine rg_nil ?_; refine go_condI (fun h13 => ?_) (fun h13 => ?_)
                                · refine go_skip ?_; refine go_condT ?_; refine go_seq ?_; refine go_region ⟨_, Tryz.func91⟩ rfl ?_; refine q0 rfl (o_assign ?_); refine rg_nil ?_; refine ret1 Tryz.func91 Tryz.results91 wn_ () (by simp_all [kidsN]) (fun w hs => hs.none)
                                · refine go_region ⟨_, Tryz.func91⟩ rfl ?_; refine q0 rfl (o_eqI ?_); refine q0 rfl (o_assign ?_); refine rg_nil ?_; refine go_condI (fun h13 => ?_) (fun h13 => ?_)
                                  · refine go_seq ?_; refine go_region ⟨_, Tryz.func91⟩ rfl ?_; refine q0 rfl (o_assign ?_); refine rg_nil ?_; refine ret1 Tryz.func91 Tryz.results91 wn_ () (by simp_all [kidsN]) (fun w hs => hs.none)
                                  · refine go_seq ?_; refine go_seq ?_; refine go_region ⟨_, Tryz.func91⟩ rfl ?_; refine q0 rfl (o_eqI ?_); refine q0 rfl (o_assign ?_); refine rg_nil ?_; refine go_condI (fun h23 => ?_) (fun h23 => ?_)
                                    · refine go_skip ?_; refine go_condT ?_; refine go_seq ?_; refine go_region ⟨_, Tryz.func91⟩ rfl ?_; refine q0 rfl (o_assign ?_); refine rg_nil ?_; refine ret1 Tryz.func91 Tryz.results91 wn_ () (by simp_all [kidsN]) (fun w hs => hs.none)
                                    · refine go_seq ?_; refine go_region ⟨_, Tryz.func91⟩ rfl ?_; refine q0 rfl (o_eqI ?_); refine q0 rfl (o_assign ?_); refine rg_nil ?_; refine go_condI (fun h23 => ?_) (fun h23 => ?_)
                                      · refine go_skip ?_; refine go_condT ?_; refine go_seq ?_; refine go_region ⟨_, Tryz.func91⟩ rfl ?_; refine q0 rfl (o_assign ?_); refine rg_nil ?_; refine ret1 Tryz.func91 Tryz.results91 wn_ () (by simp_all [kidsN]) (fun w hs => hs.none)
                                      · refine go_seq ?_; refine go_region ⟨_, Tryz.func91⟩ rfl ?_; refine q0 rfl (o_eqI ?_); refine q0 rfl (o_assign ?_); refine rg_nil ?_; refine go_condI (fun h23 => ?_) (fun h23 => ?_)
                                        · refine go_skip ?_; refine go_condT ?_; refine go_seq ?_; refine go_region ⟨_, Tryz.func91⟩ rfl ?_; refine q0 rfl (o_assign ?_); refine rg_nil ?_; refine ret1 Tryz.func91 Tryz.results91 wn_ () (by simp_all [kidsN]) (fun w hs => hs.none)
                                        · refine go_seq ?_; refine go_region ⟨_, Tryz.func91⟩ rfl ?_; refine q0 rfl (o_eqI ?_); refine q0 rfl (o_assign ?_); refine rg_nil ?_; refine go_condI (fun h23 => ?_) (fun h23 => ?_)
                                          · refine go_skip ?_; refine go_condT ?_; refine go_seq ?_; refine go_region ⟨_, Tryz.func91⟩ rfl ?_; refine q0 rfl (o_assign ?_); refine rg_nil ?_; refine ret1 Tryz.func91 Tryz.results91 wn_ () (by simp_all [kidsN]) (fun w hs => hs.none)
                                          · refine go_seq ?_; refine go_region ⟨_, Tryz.func91⟩ rfl ?_; refine q0 rfl (o_eqI ?_); refine q0 rfl (o_assign ?_); refine rg_nil ?_; refine go_condI (fun h23 => ?_) (fun h23 => ?_)
                                            · refine go_skip ?_; refine go_condT ?_; refine go_seq ?_; refine go_region ⟨_, Tryz.func91⟩ rfl ?_; refine q0 rfl (o_assign ?_); refine rg_nil ?_; refine ret1 Tryz.func91 Tryz.results91 wn_ () (by simp_all [kidsN]) (fun w hs => hs.none)
                                            · refine go_seq ?_; refine go_region ⟨_, Tryz.func91⟩ rfl ?_; refine q0 rfl (o_eqI ?_); refine q0 rfl (o_assign ?_); refine rg_nil ?_; refine go_condI (fun h23 => ?_) (fun h23 => ?_)
                                              · refine go_skip ?_; refine go_condT ?_; refine go_seq ?_; refine go_region ⟨_, Tryz.func91⟩ rfl ?_; refine q0 rfl (o_assign ?_); refine rg_nil ?_; refine ret1 Tryz.func91 Tryz.results91 wn_ () (by simp_all [kidsN]) (fun w hs => hs.none)
                                              · refine go_region ⟨_, Tryz.func91⟩ rfl ?_; refine q0 rfl (o_eqI ?_); refine q0 rfl (o_assign ?_); refine rg_nil ?_; refine go_condI (fun h23 => ?_) (fun h23 => ?_)
                                                · refine go_seq ?_; refine go_region ⟨_, Tryz.func91⟩ rfl ?_; refine q0 rfl (o_assign ?_); refine rg_nil ?_; refine ret1 Tryz.func91 Tryz.results91 wn_ () (by simp_all [kidsN]) (fun w hs => hs.none)
                                                · refine go_seq ?_; refine go_seq ?_; refine go_region ⟨_, Tryz.func91⟩ rfl ?_; refine q0 rfl (o_eqI ?_); refine q0 rfl (o_assign ?_); refine rg_nil ?_; refine go_condI (fun h31 => ?_) (fun h31 => ?_)
                                                  · refine go_skip ?_; refine go_condT ?_; refine go_seq ?_; refine go_region ⟨_, Tryz.func91⟩ rfl ?_; refine q0 rfl (o_assign ?_); refine rg_nil ?_; refine ret1 Tryz.func91 Tryz.results91 wn_ () (by simp_all [kidsN]) (fun w hs => hs.none)
                                                  · refine go_region ⟨_, Tryz.func91⟩ rfl ?_; refine q0 rfl (o_eqI ?_); refine q0 rfl (o_assign ?_); refine rg_nil ?_; refine go_condI (fun h31 => ?_) (fun h31 => ?_)
                                                    · refine go_seq ?_; refine go_region ⟨_, Tryz.func91⟩ rfl ?_; refine q0 rfl (o_assign ?_); refine rg_nil ?_; refine ret1 Tryz.func91 Tryz.results91 wn_ () (by simp_all [kidsN]) (fun w hs => hs.none)
                                                    · refine go_seq ?_; refine go_region ⟨_, Tryz.func91⟩ rfl ?_; refine q0 rfl (o_eqI ?_); refine q0 rfl (o_assign ?_); refine rg_nil ?_; refine go_condI (fun h34 => ?_) (fun h34 => ?_)
                                                      · refine go_seq ?_; refine go_region ⟨_, Tryz.func91⟩ rfl ?_; refine q0 rfl (o_assign ?_); refine rg_nil ?_; refine ret1 Tryz.func91 Tryz.results91 wn_ () (by simp_all [kidsN]) (fun w hs => hs.none)
                                                      · refine go_seq ?_; refine go_region ⟨_, Tryz.func91⟩ rfl ?_; refine q0 rfl (o_eqI ?_); refine q0 rfl (o_assign ?_); refine rg_nil ?_; refine go_condI (fun h36 => ?_) (fun h36 => ?_)
                                                        · refine go_seq ?_; refine go_region ⟨_, Tryz.func91⟩ rfl ?_; refine q0 rfl (o_assign ?_); refine rg_nil ?_; refine ret1 Tryz.func91 Tryz.results91 wn_ () (by simp_all [kidsN]) (fun w hs => hs.none)
                                                        · refine go_skip ?_; refine go_inBlock ?_; refine go_seq ?_; refine go_region ⟨_, Tryz.func91⟩ rfl ?_; refine q0 rfl (o_assign ?_); refine rg_nil ?_; refine ret1 Tryz.func91 Tryz.results91 wn_ () (by simp_all [kidsN]) (fun w hs => hs.none)
theorem parts_spec (k : Int) : Spec Tryz.prog 92 #[.int .i64 k] [] [] (fun _ : Unit => .int .i64 (partsN k)) (fun _ => []) (fun _ => []) := by
  refine spec_go (args := [.int .i64 k]) Tryz.func92 Tryz.ntmps92 rfl (by exact Nat.le_of_ble_eq_true rfl) fun B hB => ?_
  refine go_seq ?_; refine go_region ⟨_, Tryz.func92⟩ rfl ?_; refine q0 rfl (o_assign ?_); refine rg_nil ?_; refine go_seq ?_; refine go_seq ?_; refine go_region ⟨_, Tryz.func92⟩ rfl ?_; refine q0 rfl (o_move ?_); refine rg_nil ?_; refine go_block ?_; refine go_seq ?_; refine go_seq ?_; refine go_region ⟨_, Tryz.func92⟩ rfl ?_; refine q0 rfl (o_eqI ?_); refine q0 rfl (o_assign ?_); refine rg_nil ?_; refine go_condI (fun h4 => ?_) (fun h4 => ?_)
  · refine go_skip ?_; refine go_condT ?_; refine go_seq ?_; refine go_region ⟨_, Tryz.func92⟩ rfl ?_; refine q0 rfl (o_assign ?_); refine rg_nil ?_; refine ret1 Tryz.func92 Tryz.results92 wn_ () (by simp_all [partsN]) (fun w hs => hs.none)
  · refine go_seq ?_; refine go_region ⟨_, Tryz.func92⟩ rfl ?_; refine q0 rfl (o_eqI ?_); refine q0 rfl (o_assign ?_); refine rg_nil ?_; refine go_condI (fun h4 => ?_) (fun h4 => ?_)
    · refine go_skip ?_; refine go_condT ?_; refine go_seq ?_; refine go_region ⟨_, Tryz.func92⟩ rfl ?_; refine q0 rfl (o_assign ?_); refine rg_nil ?_; refine ret1 Tryz.func92 Tryz.results92 wn_ () (by simp_all [partsN]) (fun w hs => hs.none)
    · refine go_region ⟨_, Tryz.func92⟩ rfl ?_; refine q0 rfl (o_eqI ?_); refine q0 rfl (o_assign ?_); refine rg_nil ?_; refine go_condI (fun h4 => ?_) (fun h4 => ?_)
      · refine go_seq ?_; refine go_region ⟨_, Tryz.func92⟩ rfl ?_; refine q0 rfl (o_assign ?_); refine rg_nil ?_; refine ret1 Tryz.func92 Tryz.results92 wn_ () (by simp_all [partsN]) (fun w hs => hs.none)
      · refine go_seq ?_; refine go_region ⟨_, Tryz.func92⟩ rfl ?_; refine q0 rfl (o_eqI ?_); refine q0 rfl (o_assign ?_); refine rg_nil ?_; refine go_condI (fun h8 => ?_) (fun h8 => ?_)
        · refine go_seq ?_; refine go_region ⟨_, Tryz.func92⟩ rfl ?_; refine q0 rfl (o_assign ?_); refine rg_nil ?_; refine ret1 Tryz.func92 Tryz.results92 wn_ () (by simp_all [partsN]) (fun w hs => hs.none)
        · refine go_skip ?_; refine go_inBlock ?_; refine go_seq ?_; refine go_region ⟨_, Tryz.func92⟩ rfl ?_; refine q0 rfl (o_assign ?_); refine rg_nil ?_; refine ret1 Tryz.func92 Tryz.results92 wn_ () (by simp_all [partsN]) (fun w hs => hs.none)
theorem rparts_spec (k : Int) : Spec Tryz.prog 65 #[.int .i64 k] [] [] (fun _ : Unit => .int .i64 (partsN k)) (fun _ => []) (fun _ => []) := by
  refine spec_go (args := [.int .i64 k]) Tryz.func65 Tryz.ntmps65 rfl (by exact Nat.le_of_ble_eq_true rfl) fun B hB => ?_
  refine go_seq ?_; refine go_region ⟨_, Tryz.func65⟩ rfl ?_; refine q0 rfl (o_assign ?_); refine rg_nil ?_; refine go_seq ?_; refine go_seq ?_; refine go_region ⟨_, Tryz.func65⟩ rfl ?_; refine q0 rfl (o_move ?_); refine q0 rfl (o_eqI ?_); refine rg_nil ?_; refine go_condI (fun h4 => ?_) (fun h4 => ?_)
  · refine go_seq ?_; refine go_region ⟨_, Tryz.func65⟩ rfl ?_; refine q0 rfl (o_assign ?_); refine rg_nil ?_; refine ret1 Tryz.func65 Tryz.results65 wn_ () (by simp_all [partsN]) (fun w hs => hs.none)
  · refine go_skip ?_; refine go_seq ?_; refine go_seq ?_; refine go_region ⟨_, Tryz.func65⟩ rfl ?_; refine q0 rfl (o_move ?_); refine q0 rfl (o_eqI ?_); refine q0 rfl (o_move ?_); refine qI rfl rfl rfl wl_ (fun hg7 => o_move ?_) (fun hg7 => ?_)
    · refine qT rfl rfl rfl (o_eqI ?_); refine q0 rfl (o_pickF ?_); refine q0 rfl (o_move ?_); refine qI rfl rfl rfl wl_ (fun hg11 => o_move ?_) (fun hg11 => ?_)
      · refine qT rfl rfl rfl (o_eqI ?_); refine q0 rfl (o_pickF ?_); refine rg_nil ?_; refine go_condI (fun h14 => ?_) (fun h14 => ?_)
        · refine go_seq ?_; refine go_region ⟨_, Tryz.func65⟩ rfl ?_; refine q0 rfl (o_assign ?_); refine rg_nil ?_; refine ret1 Tryz.func65 Tryz.results65 wn_ () (by simp_all [partsN]) (fun w hs => hs.none)
        · refine go_skip ?_; refine go_seq ?_; refine go_region ⟨_, Tryz.func65⟩ rfl ?_; refine q0 rfl (o_assign ?_); refine rg_nil ?_; refine ret1 Tryz.func65 Tryz.results65 wn_ () (by simp_all [partsN]) (fun w hs => hs.none)
      · refine qF rfl rfl rfl ?_; refine q0 rfl (o_pickT ?_); refine rg_nil ?_; refine go_condT ?_; refine go_seq ?_; refine go_region ⟨_, Tryz.func65⟩ rfl ?_; refine q0 rfl (o_assign ?_); refine rg_nil ?_; refine ret1 Tryz.func65 Tryz.results65 wn_ () (by simp_all [partsN]) (fun w hs => hs.none)
    · refine qF rfl rfl rfl ?_; refine q0 rfl (o_pickT ?_); refine q0 rfl (o_move ?_); refine qF rfl rfl rfl ?_; refine qF rfl rfl rfl ?_; refine q0 rfl (o_pickT ?_); refine rg_nil ?_; refine go_condT ?_; refine go_seq ?_; refine go_region ⟨_, Tryz.func65⟩ rfl ?_; refine q0 rfl (o_assign ?_); refine rg_nil ?_; refine ret1 Tryz.func65 Tryz.results65 wn_ () (by simp_all [partsN]) (fun w hs => hs.none)
theorem rmore_spec (k : Int) : Spec Tryz.prog 54 #[.int .i64 k] [] [] (fun _ : Unit => .int .i64 (more k)) (fun _ => []) (fun _ => []) := by
  refine spec_go (args := [.int .i64 k]) Tryz.func54 Tryz.ntmps54 rfl (by exact Nat.le_of_ble_eq_true rfl) fun B hB => ?_
  refine go_seq ?_; refine go_region ⟨_, Tryz.func54⟩ rfl ?_; refine q0 rfl (o_assign ?_); refine rg_nil ?_; refine go_seq ?_; refine go_seq ?_; refine go_region ⟨_, Tryz.func54⟩ rfl ?_; refine q0 rfl (o_move ?_); refine q0 rfl (o_eqI ?_); refine rg_nil ?_; refine go_condI (fun h4 => ?_) (fun h4 => ?_)
  · refine go_seq ?_; refine go_region ⟨_, Tryz.func54⟩ rfl ?_; refine q0 rfl (o_assign ?_); refine rg_nil ?_; refine ret1 Tryz.func54 Tryz.results54 wn_ () (by simp_all [more]) (fun w hs => hs.none)
  · refine go_skip ?_; refine go_seq ?_; refine go_region ⟨_, Tryz.func54⟩ rfl ?_; refine q0 rfl (o_assign ?_); refine rg_nil ?_; refine ret1 Tryz.func54 Tryz.results54 wn_ () (by simp_all [more]) (fun w hs => hs.none)
theorem rbinds_spec (k i : Int) : Spec Tryz.prog 53 #[.int .i64 k, .int .i64 i] [] [] (fun _ : Unit => .tuple #[.int .i64 (binds k i).1, .int .i64 (binds k i).2]) (fun _ => []) (fun _ => []) := by
  refine spec_go (args := [.int .i64 k, .int .i64 i]) Tryz.func53 Tryz.ntmps53 rfl (by exact Nat.le_of_ble_eq_true rfl) fun B hB => ?_
  refine go_seq ?_; refine go_region ⟨_, Tryz.func53⟩ rfl ?_; refine q0 rfl (o_assign ?_); refine q0 rfl (o_assign ?_); refine rg_nil ?_; refine go_seq ?_; refine go_seq ?_; refine go_region ⟨_, Tryz.func53⟩ rfl ?_; refine q0 rfl (o_move ?_); refine q0 rfl (o_eqI ?_); refine q0 rfl (o_move ?_); refine qI rfl rfl rfl wl_ (fun hg8 => o_move ?_) (fun hg8 => ?_)
  · refine qT rfl rfl rfl (o_eqI ?_); refine qT rfl rfl rfl (o_move ?_); refine qI rfl rfl rfl wl_ (fun hg11 => o_move ?_) (fun hg11 => ?_)
    · refine qT rfl rfl rfl (o_eqI ?_); refine qT rfl rfl rfl (o_pickF ?_); refine q0 rfl (o_pickT ?_); refine rg_nil ?_; refine go_condI (fun h15 => ?_) (fun h15 => ?_)
      · refine go_seq ?_; refine go_region ⟨_, Tryz.func53⟩ rfl ?_; refine q0 rfl (o_assign ?_); refine q0 rfl (o_assign ?_); refine rg_nil ?_; refine ret2 Tryz.func53 Tryz.results53 wn_ wn_ () (by simp_all [binds]) (fun w hs => hs.none)
      · refine go_skip ?_; refine go_seq ?_; refine go_seq ?_; refine go_region ⟨_, Tryz.func53⟩ rfl ?_; refine q0 rfl (o_move ?_); refine q0 rfl (o_eqI ?_); refine q0 rfl (o_move ?_); refine qI rfl rfl rfl wl_ (fun hg18 => o_move ?_) (fun hg18 => ?_)
        · refine qT rfl rfl rfl (o_eqI ?_); refine qT rfl rfl rfl (o_move ?_); refine qI rfl rfl rfl wl_ (fun hg21 => o_move ?_) (fun hg21 => ?_)
          · refine qT rfl rfl rfl (o_eqI ?_); refine qT rfl rfl rfl (o_pickF ?_); refine qT rfl rfl rfl (o_move ?_); refine qI rfl rfl rfl wl_ (fun hg25 => o_move ?_) (fun hg25 => ?_)
            · refine qT rfl rfl rfl (o_eqI ?_); refine qT rfl rfl rfl (o_pickF ?_); refine q0 rfl (o_pickT ?_); refine rg_nil ?_; refine go_condI (fun h29 => ?_) (fun h29 => ?_)
              · refine go_seq ?_; refine go_region ⟨_, Tryz.func53⟩ rfl ?_; refine q0 rfl (o_assign ?_); refine q0 rfl (o_assign ?_); refine rg_nil ?_; refine ret2 Tryz.func53 Tryz.results53 wn_ wn_ () (by simp_all [binds]) (fun w hs => hs.none)
              · refine go_skip ?_; refine go_seq ?_; refine go_seq ?_; refine go_region ⟨_, Tryz.func53⟩ rfl ?_; refine q0 rfl (o_move ?_); refine q0 rfl (o_eqI ?_); refine q0 rfl (o_move ?_); refine qI rfl rfl rfl wl_ (fun hg32 => o_move ?_) (fun hg32 => ?_)
                · refine qT rfl rfl rfl (o_eqI ?_); refine qT rfl rfl rfl (o_move ?_); refine qI rfl rfl rfl wl_ (fun hg35 => o_move ?_) (fun hg35 => ?_)
                  · refine qT rfl rfl rfl (o_eqI ?_); refine qT rfl rfl rfl (o_pickF ?_); refine qT rfl rfl rfl (o_move ?_); refine qI rfl rfl rfl wl_ (fun hg39 => o_move ?_) (fun hg39 => ?_)
                    · refine qT rfl rfl rfl (o_eqI ?_); refine qT rfl rfl rfl (o_pickF ?_); refine q0 rfl (o_pickT ?_); refine rg_nil ?_; refine go_condI (fun h43 => ?_) (fun h43 => ?_)
                      · refine go_seq ?_; refine go_region ⟨_, Tryz.func53⟩ rfl ?_; refine q0 rfl (o_assign ?_); refine q0 rfl (o_assign ?_); refine rg_nil ?_; refine ret2 Tryz.func53 Tryz.results53 wn_ wn_ () (by simp_all [binds]) (fun w hs => hs.none)
                      · refine go_skip ?_; refine go_seq ?_; refine go_region ⟨_, Tryz.func53⟩ rfl ?_; refine q0 rfl (o_assign ?_); refine q0 rfl (o_assign ?_); refine rg_nil ?_; refine ret2 Tryz.func53 Tryz.results53 wn_ wn_ () (by simp_all [binds]) (fun w hs => hs.none)
                    · refine qF rfl rfl rfl ?_; refine qT rfl rfl rfl (o_pickT ?_); refine q0 rfl (o_pickT ?_); refine rg_nil ?_; refine go_condT ?_; refine go_seq ?_; refine go_region ⟨_, Tryz.func53⟩ rfl ?_; refine q0 rfl (o_assign ?_); refine q0 rfl (o_assign ?_); refine rg_nil ?_; refine ret2 Tryz.func53 Tryz.results53 wn_ wn_ () (by simp_all [binds]) (fun w hs => hs.none)
                  · refine qF rfl rfl rfl ?_; refine qT rfl rfl rfl (o_pickT ?_); refine qT rfl rfl rfl (o_move ?_); refine qF rfl rfl rfl ?_; refine qF rfl rfl rfl ?_; refine qT rfl rfl rfl (o_pickT ?_); refine q0 rfl (o_pickT ?_); refine rg_nil ?_; refine go_condT ?_; refine go_seq ?_; refine go_region ⟨_, Tryz.func53⟩ rfl ?_; refine q0 rfl (o_assign ?_); refine q0 rfl (o_assign ?_); refine rg_nil ?_; refine ret2 Tryz.func53 Tryz.results53 wn_ wn_ () (by simp_all [binds]) (fun w hs => hs.none)
                · refine qF rfl rfl rfl ?_; refine qF rfl rfl rfl ?_; refine qU rfl rfl rfl ?_; refine qU rfl rfl rfl ?_; refine qF rfl rfl rfl ?_; refine qF rfl rfl rfl ?_; refine qU rfl rfl rfl ?_; refine qU rfl rfl rfl ?_; refine qF rfl rfl rfl ?_; refine q0 rfl (o_pickF ?_); refine rg_nil ?_; refine go_condF ?_; refine go_skip ?_; refine go_seq ?_; refine go_region ⟨_, Tryz.func53⟩ rfl ?_; refine q0 rfl (o_assign ?_); refine q0 rfl (o_assign ?_); refine rg_nil ?_; refine ret2 Tryz.func53 Tryz.results53 wn_ wn_ () (by simp_all [binds]) (fun w hs => hs.none)
            · refine qF rfl rfl rfl ?_; refine qT rfl rfl rfl (o_pickT ?_); refine q0 rfl (o_pickT ?_); refine rg_nil ?_; refine go_condT ?_; refine go_seq ?_; refine go_region ⟨_, Tryz.func53⟩ rfl ?_; refine q0 rfl (o_assign ?_); refine q0 rfl (o_assign ?_); refine rg_nil ?_; refine ret2 Tryz.func53 Tryz.results53 wn_ wn_ () (by simp_all [binds]) (fun w hs => hs.none)
          · refine qF rfl rfl rfl ?_; refine qT rfl rfl rfl (o_pickT ?_); refine qT rfl rfl rfl (o_move ?_); refine qF rfl rfl rfl ?_; refine qF rfl rfl rfl ?_; refine qT rfl rfl rfl (o_pickT ?_); refine q0 rfl (o_pickT ?_); refine rg_nil ?_; refine go_condT ?_; refine go_seq ?_; refine go_region ⟨_, Tryz.func53⟩ rfl ?_; refine q0 rfl (o_assign ?_); refine q0 rfl (o_assign ?_); refine rg_nil ?_; refine ret2 Tryz.func53 Tryz.results53 wn_ wn_ () (by simp_all [binds]) (fun w hs => hs.none)
        · refine qF rfl rfl rfl ?_; refine qF rfl rfl rfl ?_; refine qU rfl rfl rfl ?_; refine qU rfl rfl rfl ?_; refine qF rfl rfl rfl ?_; refine qF rfl rfl rfl ?_; refine qU rfl rfl rfl ?_; refine qU rfl rfl rfl ?_; refine qF rfl rfl rfl ?_; refine q0 rfl (o_pickF ?_); refine rg_nil ?_; refine go_condF ?_; refine go_skip ?_; refine go_seq ?_; refine go_seq ?_; refine go_region ⟨_, Tryz.func53⟩ rfl ?_; refine q0 rfl (o_move ?_); refine q0 rfl (o_eqI ?_); refine q0 rfl (o_move ?_); refine qI rfl rfl rfl wl_ (fun hg32 => o_move ?_) (fun hg32 => ?_)
          · refine qT rfl rfl rfl (o_eqI ?_); refine qT rfl rfl rfl (o_move ?_); refine qI rfl rfl rfl wl_ (fun hg35 => o_move ?_) (fun hg35 => ?_)
            · refine qT rfl rfl rfl (o_eqI ?_); refine qT rfl rfl rfl (o_pickF ?_); refine qT rfl rfl rfl (o_move ?_); refine qI rfl rfl rfl wl_ (fun hg39 => o_move ?_) (fun hg39 => ?_)
              · refine qT rfl rfl rfl (o_eqI ?_); refine qT rfl rfl rfl (o_pickF ?_); refine q0 rfl (o_pickT ?_); refine rg_nil ?_; refine go_condI (fun h43 => ?_) (fun h43 => ?_)
                · refine go_seq ?_; refine go_region ⟨_, Tryz.func53⟩ rfl ?_; refine q0 rfl (o_assign ?_); refine q0 rfl (o_assign ?_); refine rg_nil ?_; refine ret2 Tryz.func53 Tryz.results53 wn_ wn_ () (by simp_all [binds]) (fun w hs => hs.none)
                · refine go_skip ?_; refine go_seq ?_; refine go_region ⟨_, Tryz.func53⟩ rfl ?_; refine q0 rfl (o_assign ?_); refine q0 rfl (o_assign ?_); refine rg_nil ?_; refine ret2 Tryz.func53 Tryz.results53 wn_ wn_ () (by simp_all [binds]) (fun w hs => hs.none)
              · refine qF rfl rfl rfl ?_; refine qT rfl rfl rfl (o_pickT ?_); refine q0 rfl (o_pickT ?_); refine rg_nil ?_; refine go_condT ?_; refine go_seq ?_; refine go_region ⟨_, Tryz.func53⟩ rfl ?_; refine q0 rfl (o_assign ?_); refine q0 rfl (o_assign ?_); refine rg_nil ?_; refine ret2 Tryz.func53 Tryz.results53 wn_ wn_ () (by simp_all [binds]) (fun w hs => hs.none)
            · refine qF rfl rfl rfl ?_; refine qT rfl rfl rfl (o_pickT ?_); refine qT rfl rfl rfl (o_move ?_); refine qF rfl rfl rfl ?_; refine qF rfl rfl rfl ?_; refine qT rfl rfl rfl (o_pickT ?_); refine q0 rfl (o_pickT ?_); refine rg_nil ?_; refine go_condT ?_; refine go_seq ?_; refine go_region ⟨_, Tryz.func53⟩ rfl ?_; refine q0 rfl (o_assign ?_); refine q0 rfl (o_assign ?_); refine rg_nil ?_; refine ret2 Tryz.func53 Tryz.results53 wn_ wn_ () (by simp_all [binds]) (fun w hs => hs.none)
          · refine qF rfl rfl rfl ?_; refine qF rfl rfl rfl ?_; refine qU rfl rfl rfl ?_; refine qU rfl rfl rfl ?_; refine qF rfl rfl rfl ?_; refine qF rfl rfl rfl ?_; refine qU rfl rfl rfl ?_; refine qU rfl rfl rfl ?_; refine qF rfl rfl rfl ?_; refine q0 rfl (o_pickF ?_); refine rg_nil ?_; refine go_condF ?_; refine go_skip ?_; refine go_seq ?_; refine go_region ⟨_, Tryz.func53⟩ rfl ?_; refine q0 rfl (o_assign ?_); refine q0 rfl (o_assign ?_); refine rg_nil ?_; refine ret2 Tryz.func53 Tryz.results53 wn_ wn_ () (by simp_all [binds]) (fun w hs => hs.none)
    · refine qF rfl rfl rfl ?_; refine qT rfl rfl rfl (o_pickT ?_); refine q0 rfl (o_pickT ?_); refine rg_nil ?_; refine go_condT ?_; refine go_seq ?_; refine go_region ⟨_, Tryz.func53⟩ rfl ?_; refine q0 rfl (o_assign ?_); refine q0 rfl (o_assign ?_); refine rg_nil ?_; refine ret2 Tryz.func53 Tryz.results53 wn_ wn_ () (by simp_all [binds]) (fun w hs => hs.none)
  · refine qF rfl rfl rfl ?_; refine qF rfl rfl rfl ?_; refine qU rfl rfl rfl ?_; refine qU rfl rfl rfl ?_; refine qF rfl rfl rfl ?_; refine q0 rfl (o_pickF ?_); refine rg_nil ?_; refine go_condF ?_; refine go_skip ?_; refine go_seq ?_; refine go_seq ?_; refine go_region ⟨_, Tryz.func53⟩ rfl ?_; refine q0 rfl (o_move ?_); refine q0 rfl (o_eqI ?_); refine q0 rfl (o_move ?_); refine qI rfl rfl rfl wl_ (fun hg18 => o_move ?_) (fun hg18 => ?_)
    · refine qT rfl rfl rfl (o_eqI ?_); refine qT rfl rfl rfl (o_move ?_); refine qI rfl rfl rfl wl_ (fun hg21 => o_move ?_) (fun hg21 => ?_)
      · refine qT rfl rfl rfl (o_eqI ?_); refine qT rfl rfl rfl (o_pickF ?_); refine qT rfl rfl rfl (o_move ?_); refine qI rfl rfl rfl wl_ (fun hg25 => o_move ?_) (fun hg25 => ?_)
        · refine qT rfl rfl rfl (o_eqI ?_); refine qT rfl rfl rfl (o_pickF ?_); refine q0 rfl (o_pickT ?_); refine rg_nil ?_; refine go_condI (fun h29 => ?_) (fun h29 => ?_)
          · refine go_seq ?_; refine go_region ⟨_, Tryz.func53⟩ rfl ?_; refine q0 rfl (o_assign ?_); refine q0 rfl (o_assign ?_); refine rg_nil ?_; refine ret2 Tryz.func53 Tryz.results53 wn_ wn_ () (by simp_all [binds]) (fun w hs => hs.none)
          · refine go_skip ?_; refine go_seq ?_; refine go_seq ?_; refine go_region ⟨_, Tryz.func53⟩ rfl ?_; refine q0 rfl (o_move ?_); refine q0 rfl (o_eqI ?_); refine q0 rfl (o_move ?_); refine qI rfl rfl rfl wl_ (fun hg32 => o_move ?_) (fun hg32 => ?_)
            · refine qT rfl rfl rfl (o_eqI ?_); refine qT rfl rfl rfl (o_move ?_); refine qI rfl rfl rfl wl_ (fun hg35 => o_move ?_) (fun hg35 => ?_)
              · refine qT rfl rfl rfl (o_eqI ?_); refine qT rfl rfl rfl (o_pickF ?_); refine qT rfl rfl rfl (o_move ?_); refine qI rfl rfl rfl wl_ (fun hg39 => o_move ?_) (fun hg39 => ?_)
                · refine qT rfl rfl rfl (o_eqI ?_); refine qT rfl rfl rfl (o_pickF ?_); refine q0 rfl (o_pickT ?_); refine rg_nil ?_; refine go_condI (fun h43 => ?_) (fun h43 => ?_)
                  · refine go_seq ?_; refine go_region ⟨_, Tryz.func53⟩ rfl ?_; refine q0 rfl (o_assign ?_); refine q0 rfl (o_assign ?_); refine rg_nil ?_; refine ret2 Tryz.func53 Tryz.results53 wn_ wn_ () (by simp_all [binds]) (fun w hs => hs.none)
                  · refine go_skip ?_; refine go_seq ?_; refine go_region ⟨_, Tryz.func53⟩ rfl ?_; refine q0 rfl (o_assign ?_); refine q0 rfl (o_assign ?_); refine rg_nil ?_; refine ret2 Tryz.func53 Tryz.results53 wn_ wn_ () (by simp_all [binds]) (fun w hs => hs.none)
                · refine qF rfl rfl rfl ?_; refine qT rfl rfl rfl (o_pickT ?_); refine q0 rfl (o_pickT ?_); refine rg_nil ?_; refine go_condT ?_; refine go_seq ?_; refine go_region ⟨_, Tryz.func53⟩ rfl ?_; refine q0 rfl (o_assign ?_); refine q0 rfl (o_assign ?_); refine rg_nil ?_; refine ret2 Tryz.func53 Tryz.results53 wn_ wn_ () (by simp_all [binds]) (fun w hs => hs.none)
              · refine qF rfl rfl rfl ?_; refine qT rfl rfl rfl (o_pickT ?_); refine qT rfl rfl rfl (o_move ?_); refine qF rfl rfl rfl ?_; refine qF rfl rfl rfl ?_; refine qT rfl rfl rfl (o_pickT ?_); refine q0 rfl (o_pickT ?_); refine rg_nil ?_; refine go_condT ?_; refine go_seq ?_; refine go_region ⟨_, Tryz.func53⟩ rfl ?_; refine q0 rfl (o_assign ?_); refine q0 rfl (o_assign ?_); refine rg_nil ?_; refine ret2 Tryz.func53 Tryz.results53 wn_ wn_ () (by simp_all [binds]) (fun w hs => hs.none)
            · refine qF rfl rfl rfl ?_; refine qF rfl rfl rfl ?_; refine qU rfl rfl rfl ?_; refine qU rfl rfl rfl ?_; refine qF rfl rfl rfl ?_; refine qF rfl rfl rfl ?_; refine qU rfl rfl rfl ?_; refine qU rfl rfl rfl ?_; refine qF rfl rfl rfl ?_; refine q0 rfl (o_pickF ?_); refine rg_nil ?_; refine go_condF ?_; refine go_skip ?_; refine go_seq ?_; refine go_region ⟨_, Tryz.func53⟩ rfl ?_; refine q0 rfl (o_assign ?_); refine q0 rfl (o_assign ?_); refine rg_nil ?_; refine ret2 Tryz.func53 Tryz.results53 wn_ wn_ () (by simp_all [binds]) (fun w hs => hs.none)
        · refine qF rfl rfl rfl ?_; refine qT rfl rfl rfl (o_pickT ?_); refine q0 rfl (o_pickT ?_); refine rg_nil ?_; refine go_condT ?_; refine go_seq ?_; refine go_region ⟨_, Tryz.func53⟩ rfl ?_; refine q0 rfl (o_assign ?_); refine q0 rfl (o_assign ?_); refine rg_nil ?_; refine ret2 Tryz.func53 Tryz.results53 wn_ wn_ () (by simp_all [binds]) (fun w hs => hs.none)
      · refine qF rfl rfl rfl ?_; refine qT rfl rfl rfl (o_pickT ?_); refine qT rfl rfl rfl (o_move ?_); refine qF rfl rfl rfl ?_; refine qF rfl rfl rfl ?_; refine qT rfl rfl rfl (o_pickT ?_); refine q0 rfl (o_pickT ?_); refine rg_nil ?_; refine go_condT ?_; refine go_seq ?_; refine go_region ⟨_, Tryz.func53⟩ rfl ?_; refine q0 rfl (o_assign ?_); refine q0 rfl (o_assign ?_); refine rg_nil ?_; refine ret2 Tryz.func53 Tryz.results53 wn_ wn_ () (by simp_all [binds]) (fun w hs => hs.none)
    · refine qF rfl rfl rfl ?_; refine qF rfl rfl rfl ?_; refine qU rfl rfl rfl ?_; refine qU rfl rfl rfl ?_; refine qF rfl rfl rfl ?_; refine qF rfl rfl rfl ?_; refine qU rfl rfl rfl ?_; refine qU rfl rfl rfl ?_; refine qF rfl rfl rfl ?_; refine q0 rfl (o_pickF ?_); refine rg_nil ?_; refine go_condF ?_; refine go_skip ?_; refine go_seq ?_; refine go_seq ?_; refine go_region ⟨_, Tryz.func53⟩ rfl ?_; refine q0 rfl (o_move ?_); refine q0 rfl (o_eqI ?_); refine q0 rfl (o_move ?_); refine qI rfl rfl rfl wl_ (fun hg32 => o_move ?_) (fun hg32 => ?_)
      · refine qT rfl rfl rfl (o_eqI ?_); refine qT rfl rfl rfl (o_move ?_); refine qI rfl rfl rfl wl_ (fun hg35 => o_move ?_) (fun hg35 => ?_)
        · refine qT rfl rfl rfl (o_eqI ?_); refine qT rfl rfl rfl (o_pickF ?_); refine qT rfl rfl rfl (o_move ?_); refine qI rfl rfl rfl wl_ (fun hg39 => o_move ?_) (fun hg39 => ?_)
          · refine qT rfl rfl rfl (o_eqI ?_); refine qT rfl rfl rfl (o_pickF ?_); refine q0 rfl (o_pickT ?_); refine rg_nil ?_; refine go_condI (fun h43 => ?_) (fun h43 => ?_)
            · refine go_seq ?_; refine go_region ⟨_, Tryz.func53⟩ rfl ?_; refine q0 rfl (o_assign ?_); refine q0 rfl (o_assign ?_); refine rg_nil ?_; refine ret2 Tryz.func53 Tryz.results53 wn_ wn_ () (by simp_all [binds]) (fun w hs => hs.none)
            · refine go_skip ?_; refine go_seq ?_; refine go_region ⟨_, Tryz.func53⟩ rfl ?_; refine q0 rfl (o_assign ?_); refine q0 rfl (o_assign ?_); refine rg_nil ?_; refine ret2 Tryz.func53 Tryz.results53 wn_ wn_ () (by simp_all [binds]) (fun w hs => hs.none)
          · refine qF rfl rfl rfl ?_; refine qT rfl rfl rfl (o_pickT ?_); refine q0 rfl (o_pickT ?_); refine rg_nil ?_; refine go_condT ?_; refine go_seq ?_; refine go_region ⟨_, Tryz.func53⟩ rfl ?_; refine q0 rfl (o_assign ?_); refine q0 rfl (o_assign ?_); refine rg_nil ?_; refine ret2 Tryz.func53 Tryz.results53 wn_ wn_ () (by simp_all [binds]) (fun w hs => hs.none)
        · refine qF rfl rfl rfl ?_; refine qT rfl rfl rfl (o_pickT ?_); refine qT rfl rfl rfl (o_move ?_); refine qF rfl rfl rfl ?_; refine qF rfl rfl rfl ?_; refine qT rfl rfl rfl (o_pickT ?_); refine q0 rfl (o_pickT ?_); refine rg_nil ?_; refine go_condT ?_; refine go_seq ?_; refine go_region ⟨_, Tryz.func53⟩ rfl ?_; refine q0 rfl (o_assign ?_); refine q0 rfl (o_assign ?_); refine rg_nil ?_; refine ret2 Tryz.func53 Tryz.results53 wn_ wn_ () (by simp_all [binds]) (fun w hs => hs.none)
      · refine qF rfl rfl rfl ?_; refine qF rfl rfl rfl ?_; refine qU rfl rfl rfl ?_; refine qU rfl rfl rfl ?_; refine qF rfl rfl rfl ?_; refine qF rfl rfl rfl ?_; refine qU rfl rfl rfl ?_; refine qU rfl rfl rfl ?_; refine qF rfl rfl rfl ?_; refine q0 rfl (o_pickF ?_); refine rg_nil ?_; refine go_condF ?_; refine go_skip ?_; refine go_seq ?_; refine go_region ⟨_, Tryz.func53⟩ rfl ?_; refine q0 rfl (o_assign ?_); refine q0 rfl (o_assign ?_); refine rg_nil ?_; refine ret2 Tryz.func53 Tryz.results53 wn_ wn_ () (by simp_all [binds]) (fun w hs => hs.none)
end Go.Hy
namespace Go.Hy
open Go.Proofs
set_option maxRecDepth 100000
theorem Int.ofNat_max' (a b : Nat) : ((max a b : Nat) : Int) = if (b : Int) > (a : Int) then (b : Int) else (a : Int) := by
  split <;> omega
end Go.Hy
namespace Go.Hy
open Go.Proofs
set_option maxRecDepth 100000
/-- A test of all parts. -/
theorem each_bool (t : T) (vr vk vs : SH) (c : FuncId) (cap : List Value) (FΓ : List Fact) (M : List Res) (g : Part → Bool)
    (hc : ∀ (args : Array Value) (w : World), (callFunc c args).run Tryz.prog w = .ok (.enter c args) w)
    (hcl : ∀ k v d, (k, v, d) ∈ parts t → ∀ vr vk vs, Spec Tryz.prog c (.agg (tc k vr vk vs).toArray :: .int .i64 v :: .int .i64 d :: cap).toArray (RT k vr vk vs :: FΓ) M (fun _ : Unit => .bool (g (k, v, d))) (fun _ => []) (fun _ => M)) :
    Spec Tryz.prog 73 #[.agg (tc t vr vk vs).toArray, .func (.func c) #[] cap.toArray] (RT t vr vk vs :: FΓ) M (fun _ : Unit => .bool ((parts t).all g)) (fun _ => []) (fun _ => M) := by
  have h := each_spec t vr vk vs c cap FΓ (fun _ => M) (fun _ => M) (atPart t g) hc (fun m k v d hm _ vr vk vs => by simpa [atPart_some hm] using hcl k v d (parts_mem hm) vr vk vs); rw [ff_parts] at h; simpa using h
abbrev ShallowAt (t : T) : Prop := ∀ (left : Int) vr vk vs, in64 left → Spec Tryz.prog 70 #[.agg (tc t vr vk vs).toArray, .int .i64 left] [RT t vr vk vs] [] (fun _ : Unit => .bool (decide ((depth t : Int) ≤ left))) (fun _ => []) (fun _ => [])
theorem shallow1_walk (k : T) (vr vk vs : SH) (b : Nat) (left v d : Int) (h0 : 0 < left) (hl : in64 left) (ih : ShallowAt k) : Spec Tryz.prog 88 #[.agg (tc k vr vk vs).toArray, .int .i64 v, .int .i64 d, .pointer (some ⟨b, 0, none⟩)] [RT k vr vk vs] [boxR b [.int .i64 left] 3] (fun _ : Unit => .bool (decide ((depth k : Int) ≤ left - 1))) (fun _ => []) (fun _ => [boxR b [.int .i64 left] 3]) := by
  refine spec_go (args := [.agg (tc k vr vk vs).toArray, .int .i64 v, .int .i64 d, .pointer (some ⟨b, 0, none⟩)]) Tryz.func88 Tryz.ntmps88 rfl (by exact Nat.le_of_ble_eq_true rfl) fun B hB => ?_
  refine go_seq ?_; refine go_region ⟨_, Tryz.func88⟩ rfl ?_; refine q0 rfl (o_box fun b4 => ?_); refine q0 rfl (o_assign ?_); refine rg_nil ?_; refine go_seq ?_; refine go_region ⟨_, Tryz.func88⟩ rfl ?_; refine q0 rfl (o_lds ?_); refine q0 rfl (o_ld ?_); refine q0 rfl (o_sub ?_); refine q0 rfl (o_call Tryz.call70 (ih (left - 1) vr vk vs (by unfold in64 at *; omega)) (fun x11 => ?_)); refine q0 rfl (o_assign ?_); refine rg_nil ?_; refine ret1 Tryz.func88 Tryz.results88 wn_ () rfl (fun w hs => (hs.less (by simp)).drop)
theorem shallow_walk (t : T) (ih : ∀ p, p ∈ parts t → ShallowAt p.1) (left : Int) (vr vk vs : SH) (hl : in64 left) : Spec Tryz.prog 70 #[.agg (tc t vr vk vs).toArray, .int .i64 left] [RT t vr vk vs] [] (fun _ : Unit => .bool (decide ((depth t : Int) ≤ left))) (fun _ => []) (fun _ => []) := by
  refine spec_go (args := [.agg (tc t vr vk vs).toArray, .int .i64 left]) Tryz.func70 Tryz.ntmps70 rfl (by exact Nat.le_of_ble_eq_true rfl) fun B hB => ?_
  refine go_seq ?_; refine go_region ⟨_, Tryz.func70⟩ rfl ?_; refine q0 rfl (o_box fun b2 => ?_); refine q0 rfl (o_box fun b3 => ?_); refine q0 rfl (o_assign ?_); refine rg_nil ?_; refine go_seq ?_; refine go_region ⟨_, Tryz.func70⟩ rfl ?_; refine q0 rfl (o_ld ?_); refine q0 rfl (o_gtr ?_); refine q0 rfl (o_move ?_); refine qI rfl rfl rfl wl_ (fun hg7 => o_lds ?_) (fun hg7 => ?_)
  · refine qT rfl rfl rfl (o_func ?_); have h0 : 0 < left := of_decide_eq_true hg7; have hE := each_bool t vr vk vs 88 [.pointer (some ⟨b3, 0, none⟩)] [] [boxR b3 [.int .i64 left] 3] (fun p => decide ((depth p.1 : Int) ≤ left - 1)) Tryz.call88 (fun k v d hm vr vk vs => shallow1_walk k vr vk vs b3 left v d h0 hl (ih _ hm)); rw [← depth_int t left h0] at hE; refine qT rfl rfl rfl (o_call Tryz.call73 (hE) (fun x10 => ?_)); refine q0 rfl (o_pickT ?_); refine q0 rfl (o_assign ?_); refine rg_nil ?_; refine ret1 Tryz.func70 Tryz.results70 wn_ () rfl (fun w hs => hs.none)
  · refine qF rfl rfl rfl ?_; refine qF rfl rfl rfl ?_; refine q0 rfl (o_pickF ?_); refine q0 rfl (o_assign ?_); refine rg_nil ?_; have h0 : ¬ 0 < left := of_decide_eq_false hg7; have hp := depth_pos t; refine ret1 Tryz.func70 Tryz.results70 wn_ () (by rw [decide_eq_false (by omega)]) (fun w hs => hs.none)
theorem shallow_spec : ∀ t : T, ShallowAt t := T.ind fun t ih left vr vk vs hl => shallow_walk t ih left vr vk vs hl
/-- What is left of a number of nodes. -/
def leftOf (t : T) (m : Int) : Int := if (size t : Int) ≤ m then m - size t else -1
abbrev CountCap (b bc : Nat) : List Value := [.pointer (some ⟨b, 0, none⟩), .pointer (some ⟨bc, 0, none⟩)]
abbrev CountM (b bc : Nat) (m : Int) : List Res := [boxR b [.int .i64 m] 3, boxR bc [.func (.func 89) #[] (CountCap b bc).toArray] 27]
abbrev CountAt (t : T) : Prop := ∀ (m : Int) b bc vr vk vs, 0 ≤ m → in64 m → Spec Tryz.prog 89 #[.agg (tc t vr vk vs).toArray, .pointer (some ⟨b, 0, none⟩), .pointer (some ⟨bc, 0, none⟩)] [RT t vr vk vs] (CountM b bc m) (fun _ : Unit => .bool (decide ((size t : Int) ≤ m))) (fun _ => []) (fun _ => CountM b bc (leftOf t m))
theorem small11_walk (k : T) (vr vk vs : SH) (b bc : Nat) (m v d : Int) (h0 : 0 ≤ m) (hl : in64 m) (ih : CountAt k) : Spec Tryz.prog 90 #[.agg (tc k vr vk vs).toArray, .int .i64 v, .int .i64 d, .pointer (some ⟨bc, 0, none⟩)] [RT k vr vk vs] (CountM b bc m) (fun _ : Unit => .bool (decide ((size k : Int) ≤ m))) (fun _ => []) (fun _ => CountM b bc (leftOf k m)) := by
  refine spec_go (args := [.agg (tc k vr vk vs).toArray, .int .i64 v, .int .i64 d, .pointer (some ⟨bc, 0, none⟩)]) Tryz.func90 Tryz.ntmps90 rfl (by exact Nat.le_of_ble_eq_true rfl) fun B hB => ?_
  refine go_seq ?_; refine go_region ⟨_, Tryz.func90⟩ rfl ?_; refine q0 rfl (o_box fun b4 => ?_); refine q0 rfl (o_assign ?_); refine rg_nil ?_; refine go_seq ?_; refine go_region ⟨_, Tryz.func90⟩ rfl ?_; refine q0 rfl (o_ld ?_); refine q0 rfl (o_lds ?_); refine q0 rfl (o_callC Tryz.call89 (ih m b bc vr vk vs h0 hl) (cap := CountCap b bc) (fun x10 => ?_)); refine q0 rfl (o_assign ?_); refine rg_nil ?_; refine ret1 Tryz.func90 Tryz.results90 wn_ () rfl (fun w hs => (hs.less (by simp)).dropR (A := CountM b bc (leftOf k m)))
theorem count_each (t : T) (ih : ∀ p, p ∈ parts t → CountAt p.1) (m : Int) (b bc : Nat) (vr vk vs : SH) (h0 : 0 < m) (hl : in64 m) :
    Spec Tryz.prog 73 #[.agg (tc t vr vk vs).toArray, .func (.func 90) #[] #[.pointer (some ⟨bc, 0, none⟩)]] [RT t vr vk vs] (CountM b bc (m - 1)) (fun _ : Unit => .bool (decide ((size t : Int) ≤ m))) (fun _ => []) (fun _ => CountM b bc (leftOf t m)) := by
  have h := each_spec t vr vk vs 90 [.pointer (some ⟨bc, 0, none⟩)] [] (fun j => CountM b bc (if (sizeUpto t j : Int) ≤ m then m - sizeUpto t j else -1)) (fun _ => CountM b bc (-1)) (fun j => decide ((sizeUpto t (j + 1) : Int) ≤ m)) Tryz.call90 ?_
  · have hall : (ff (fun j => decide ((sizeUpto t (j + 1) : Int) ≤ m)) (parts t).length == (parts t).length) = decide ((size t : Int) ≤ m) := by
      rw [Bool.eq_iff_iff, beq_iff_eq, ff_eq_iff, decide_eq_true_iff]; constructor
      · intro h; cases hn : (parts t).length with
        | zero => have := sizeUpto_all t; rw [hn, sizeUpto_zero] at this; omega
        | succ n =>
          have := h n (by omega); rw [← hn, sizeUpto_all] at this; exact of_decide_eq_true this
      · intro h j hj; have := sizeUpto_le t (j + 1); exact decide_eq_true (by omega)
    simp only [hall, sizeUpto_zero, sizeUpto_all, beq_iff_eq] at h; rw [if_pos (by omega)] at h; by_cases hs : (size t : Int) ≤ m
    · have e : ff (fun j => decide ((sizeUpto t (j + 1) : Int) ≤ m)) (parts t).length = (parts t).length := by rw [← beq_iff_eq, hall]; exact decide_eq_true hs
      simp only [e, if_true, if_pos hs] at h; unfold leftOf; rw [if_pos hs]; exact h
    · have e : ¬ ff (fun j => decide ((sizeUpto t (j + 1) : Int) ≤ m)) (parts t).length = (parts t).length := by rw [← beq_iff_eq, hall]; simpa using hs
      simp only [if_neg e] at h; unfold leftOf; rw [if_neg hs]; exact h
  · intro j k v d hm hβ vr vk vs; have hs := sizeUpto_succ hm; simp only at hs; have hp := size_pos k
    have hj : (sizeUpto t j : Int) ≤ m := by
      cases j with
      | zero => rw [sizeUpto_zero]; omega
      | succ j => exact of_decide_eq_true (hβ j (by omega))
    have := small11_walk k vr vk vs b bc (m - sizeUpto t j) v d (by omega) (by unfold in64 at *; omega) (ih _ (parts_mem hm)); rw [if_pos hj]; have e1 : decide ((size k : Int) ≤ m - sizeUpto t j) = decide ((sizeUpto t (j + 1) : Int) ≤ m) := by rw [hs]; congr 1; apply propext; omega
    rw [e1] at this
    have e2 : CountM b bc (leftOf k (m - sizeUpto t j)) = if decide ((sizeUpto t (j + 1) : Int) ≤ m) = true then CountM b bc (if (sizeUpto t (j + 1) : Int) ≤ m then m - sizeUpto t (j + 1) else -1) else CountM b bc (-1) := by
      unfold leftOf; by_cases hk : (sizeUpto t (j + 1) : Int) ≤ m
      · rw [if_pos (by omega), if_pos (decide_eq_true hk), if_pos hk, hs]; congr 1; omega
      · rw [if_neg (by omega), if_neg (by simpa using hk)]
    rw [e2] at this; exact this
theorem small1_walk (t : T) (ih : ∀ p, p ∈ parts t → CountAt p.1) (m : Int) (b bc : Nat) (vr vk vs : SH) (h0 : 0 ≤ m) (hl : in64 m) : Spec Tryz.prog 89 #[.agg (tc t vr vk vs).toArray, .pointer (some ⟨b, 0, none⟩), .pointer (some ⟨bc, 0, none⟩)] [RT t vr vk vs] (CountM b bc m) (fun _ : Unit => .bool (decide ((size t : Int) ≤ m))) (fun _ => []) (fun _ => CountM b bc (leftOf t m)) := by
  refine spec_go (args := [.agg (tc t vr vk vs).toArray, .pointer (some ⟨b, 0, none⟩), .pointer (some ⟨bc, 0, none⟩)]) Tryz.func89 Tryz.ntmps89 rfl (by exact Nat.le_of_ble_eq_true rfl) fun B hB => ?_
  refine go_seq ?_; refine go_region ⟨_, Tryz.func89⟩ rfl ?_; refine q0 rfl (o_box fun b3 => ?_); refine q0 rfl (o_assign ?_); refine rg_nil ?_; refine go_seq ?_; refine go_region ⟨_, Tryz.func89⟩ rfl ?_; refine q0 rfl (o_ld ?_); refine q0 rfl (o_sub ?_); refine q0 rfl (o_stc ?_); refine rg_nil ?_; refine go_seq ?_; refine go_region ⟨_, Tryz.func89⟩ rfl ?_; refine q0 rfl (o_ld ?_); refine q0 rfl (o_geq ?_); refine q0 rfl (o_move ?_); refine qI rfl rfl rfl wl_ (fun hg9 => o_lds ?_) (fun hg9 => ?_)
  · refine qT rfl rfl rfl (o_func ?_); have h1 : 0 ≤ m - 1 := of_decide_eq_true hg9; have hE := count_each t ih m b bc vr vk vs (by omega) hl; refine qT rfl rfl rfl (o_call Tryz.call73 (hE) (fun x12 => ?_) (hm := (List.Perm.swap _ _ _).cons _)); refine q0 rfl (o_pickT ?_); refine q0 rfl (o_assign ?_); refine rg_nil ?_; refine ret1 Tryz.func89 Tryz.results89 wn_ () rfl (fun w hs => (hs.less (by simp)).dropR (A := CountM b bc (leftOf t m)))
  · refine qF rfl rfl rfl ?_; refine qF rfl rfl rfl ?_; refine q0 rfl (o_pickF ?_); refine q0 rfl (o_assign ?_); refine rg_nil ?_; have h1 : ¬ 0 ≤ m - 1 := of_decide_eq_false hg9; have hp := size_pos t; refine ret1 Tryz.func89 Tryz.results89 wn_ () (by rw [decide_eq_false (by omega)]) (fun w hs => by rw [leftOf, if_neg (by omega), show (-1 : Int) = m - 1 by omega]; exact ((hs.less (Γ' := []) (by simp)).perm ((List.Perm.swap _ _ _).cons _)).dropR (A := CountM b bc (m - 1)))
theorem count_spec : ∀ t : T, CountAt t := T.ind fun t ih m b bc vr vk vs h0 hl => small1_walk t ih m b bc vr vk vs h0 hl
end Go.Hy
namespace Go.Hy
open Go.Proofs
set_option maxRecDepth 100000
def FRight : Prop := ∀ (l : List Cl) (a : SH), Spec Tryz.prog 94 #[sl a l.length] [CL l a] [] (fun _ : Unit => .bool (fRight l)) (fun _ => []) (fun _ => [])
def FaceRight : Prop := ∀ (l : List Cl) (a : SH), Spec Tryz.prog 96 #[sl a l.length] [CL l a] [] (fun _ : Unit => .bool (faceRight l)) (fun _ => []) (fun _ => [])
def FDims : Prop := ∀ (l : List Cl) (a : SH), Spec Tryz.prog 112 #[sl a l.length] [CL l a] [] (fun _ : Unit => .int .u32 (fDims l : Int)) (fun _ => []) (fun _ => [])
def FORM : Prop := FRight ∧ FaceRight ∧ FDims
end Go.Hy
namespace Go.Hy
open Go.Proofs
set_option maxRecDepth 100000
theorem small_spec (t : T) (vr vk vs : SH) (most : Int) (h0 : 0 ≤ most) (hl : in64 most) : Spec Tryz.prog 71 #[.agg (tc t vr vk vs).toArray, .int .i64 most] [RT t vr vk vs] [] (fun _ : Unit => .bool (decide ((size t : Int) ≤ most))) (fun _ => []) (fun _ => []) := by
  refine spec_go (args := [.agg (tc t vr vk vs).toArray, .int .i64 most]) Tryz.func71 Tryz.ntmps71 rfl (by exact Nat.le_of_ble_eq_true rfl) fun B hB => ?_
  refine go_seq ?_; refine go_region ⟨_, Tryz.func71⟩ rfl ?_; refine q0 rfl (o_box fun b2 => ?_); refine q0 rfl (o_box fun b3 => ?_); refine q0 rfl (o_assign ?_); refine rg_nil ?_; refine go_seq ?_; refine go_region ⟨_, Tryz.func71⟩ rfl ?_; refine q0 rfl (o_new fun b5 => ?_); refine rg_nil ?_; refine go_seq ?_; refine go_region ⟨_, Tryz.func71⟩ rfl ?_; refine q0 rfl (o_func ?_); refine q0 rfl (o_st ?_); refine rg_nil ?_; refine go_seq ?_; refine go_region ⟨_, Tryz.func71⟩ rfl ?_; refine q0 rfl (o_ld ?_); refine q0 rfl (o_lds ?_); refine q0 rfl (o_callC Tryz.call89 (count_spec t most b3 b5 vr vk vs h0 hl) (cap := CountCap b3 b5) (fun x9 => ?_)); refine q0 rfl (o_assign ?_); refine rg_nil ?_; refine ret1 Tryz.func71 Tryz.results71 wn_ () rfl (fun w hs => hs.none)
theorem sized_spec (t : T) (vr vk vs : SH) : Spec Tryz.prog 57 #[.agg (tc t vr vk vs).toArray] [RT t vr vk vs] [] (fun _ : Unit => .int .i64 (sized t)) (fun _ => []) (fun _ => []) := by
  refine spec_go (args := [.agg (tc t vr vk vs).toArray]) Tryz.func57 Tryz.ntmps57 rfl (by exact Nat.le_of_ble_eq_true rfl) fun B hB => ?_
  refine go_seq ?_; refine go_region ⟨_, Tryz.func57⟩ rfl ?_; refine q0 rfl (o_box fun b1 => ?_); refine q0 rfl (o_assign ?_); refine rg_nil ?_; refine go_seq ?_; refine go_block ?_; refine go_seq ?_; refine go_region ⟨_, Tryz.func57⟩ rfl ?_; refine q0 rfl (o_lds ?_); refine q0 rfl (o_call Tryz.call70 (shallow_spec t 200 vr vk vs (by unfold in64; omega)) (fun x5 => ?_)); refine q0 rfl (o_not ?_); refine q0 rfl (o_assign ?_); refine rg_nil ?_; refine go_condI (fun h3 => ?_) (fun h3 => ?_)
  · refine go_seq ?_; refine go_region ⟨_, Tryz.func57⟩ rfl ?_; refine q0 rfl (o_assign ?_); refine rg_nil ?_; have h : 200 < depth t := by simp at h3; omega
    refine ret1 Tryz.func57 Tryz.results57 wn_ () (by rw [sized, if_pos h]) (fun w hs => hs.none)
  · refine go_seq ?_; refine go_region ⟨_, Tryz.func57⟩ rfl ?_; refine q0 rfl (o_lds ?_); refine q0 rfl (o_call Tryz.call71 (small_spec t vr vk vs 20000 (by omega) (by unfold in64; omega)) (fun x9 => ?_)); refine q0 rfl (o_not ?_); refine q0 rfl (o_assign ?_); refine rg_nil ?_; refine go_condI (fun h7 => ?_) (fun h7 => ?_)
    · refine go_seq ?_; refine go_region ⟨_, Tryz.func57⟩ rfl ?_; refine q0 rfl (o_assign ?_); refine rg_nil ?_; have h : ¬ 200 < depth t := by simp at h3; omega
      have h2 : 20000 < size t := by simp at h7; omega
      refine ret1 Tryz.func57 Tryz.results57 wn_ () (by rw [sized, if_neg h, if_pos h2]) (fun w hs => hs.none)
    · refine go_skip ?_; refine go_inBlock ?_; refine go_seq ?_; refine go_region ⟨_, Tryz.func57⟩ rfl ?_; refine q0 rfl (o_assign ?_); refine rg_nil ?_; have h : ¬ 200 < depth t := by simp at h3; omega
      have h2 : ¬ 20000 < size t := by simp at h7; omega
      refine ret1 Tryz.func57 Tryz.results57 wn_ () (by rw [sized, if_neg h, if_neg h2]) (fun w hs => hs.none)
theorem name_spec (s : ByteArray) (hs : s.size ≤ cap47) : Spec Tryz.prog 93 #[.string s] [] [] (fun _ : Unit => .bool (nameOK s)) (fun _ => []) (fun _ => []) := by
  refine spec_go (args := [.string s]) Tryz.func93 Tryz.ntmps93 rfl (by exact Nat.le_of_ble_eq_true rfl) fun B hB => ?_
  refine go_seq ?_; refine go_region ⟨_, Tryz.func93⟩ rfl ?_; refine q0 rfl (o_assign ?_); refine rg_nil ?_; refine go_seq ?_; refine go_seq ?_; refine go_region ⟨_, Tryz.func93⟩ rfl ?_; refine q0 rfl (o_move ?_); refine q0 rfl (o_lenStr ?_); refine q0 rfl (o_move ?_); refine rg_nil ?_; refine go_block ?_; refine go_loopI (X := Nat) (fun i => i ≤ s.size ∧ ∀ j, j < i → okAt s j = true) (fun i => [(0, .string s), (7, .int .i64 (s.size : Int)), (8, .int .i64 (i : Int))]) (fun i => []) (fun i => []) (fun i => s.size - i) (0) (⟨Nat.zero_le _, fun j hj => by omega⟩) (by exact ⟨rfl, rfl, rfl, trivial⟩) ?_ ?_
  · exact fun w hs => hs.none
  · intro i base0 ⟨hi, hok⟩ next0; refine go_seq ?_; refine go_region ⟨_, Tryz.func93⟩ rfl ?_; refine q0 rfl (o_lss ?_); refine rg_nil ?_; refine go_seq ?_; refine go_condI (fun h9 => ?_) (fun h9 => ?_)
    · have hlt : i < s.size := by have := of_decide_eq_true h9; omega
      obtain ⟨c, hc, hca⟩ := byte_at hlt; refine go_skip ?_; refine go_seq ?_; refine go_block ?_; refine go_seq ?_; refine go_region ⟨_, Tryz.func93⟩ rfl ?_; refine q0 rfl (o_move ?_); refine q0 rfl (o_assign ?_); refine rg_nil ?_; refine go_seq ?_; refine go_region ⟨_, Tryz.func93⟩ rfl ?_; refine q0 rfl (o_move ?_); refine q0 rfl (o_move ?_); refine q0 rfl (o_ixStr ?_); refine q0 rfl (o_assign ?_); refine rg_nil ?_; refine go_seq ?_; refine go_cutS ([(0, .string s), (3, .int .i64 (i : Int)), (4, .int .u8 c.toNat), (5, .bool (letter c.toNat)), (7, .int .i64 (s.size : Int)), (8, .int .i64 (i : Int))]) (fun hK => ?_) (fun base => ?_)
      · refine go_region ⟨_, Tryz.func93⟩ rfl ?_; refine q0 rfl (o_move ?_); refine q0 rfl (o_geq ?_); refine q0 rfl (o_move ?_); refine qI rfl rfl rfl wl_ (fun hg16 => o_move ?_) (fun hg16 => ?_)
        · refine qT rfl rfl rfl (o_leq ?_); refine q0 rfl (o_pickT ?_); refine q0 rfl (o_move ?_); refine qI rfl rfl rfl wl_ (fun hg20 => o_move ?_) (fun hg20 => ?_)
          · refine qT rfl rfl rfl (o_geq ?_); refine qT rfl rfl rfl (o_move ?_); refine qI rfl rfl rfl wl_ (fun hg23 => o_move ?_) (fun hg23 => ?_)
            · refine qT rfl rfl rfl (o_leq ?_); refine qT rfl rfl rfl (o_pickT ?_); refine q0 rfl (o_pickF ?_); refine q0 rfl (o_move ?_); refine qI rfl rfl rfl wl_ (fun hg28 => o_move ?_) (fun hg28 => ?_)
              · refine qT rfl rfl rfl (o_eqI ?_); refine q0 rfl (o_pickF ?_); refine q0 rfl (o_assign ?_); refine rg_nil ?_; exact hK _ ⟨rfl, rfl, rfl, (by (conv => lhs; whnf); first | (simp_all [letter]; done) | (simp_all [letter]; omega)), rfl, rfl, trivial⟩
              · refine qF rfl rfl rfl ?_; refine q0 rfl (o_pickT ?_); refine q0 rfl (o_assign ?_); refine rg_nil ?_; exact hK _ ⟨rfl, rfl, rfl, (by (conv => lhs; whnf); first | (simp_all [letter]; done) | (simp_all [letter]; omega)), rfl, rfl, trivial⟩
            · refine qF rfl rfl rfl ?_; refine qT rfl rfl rfl (o_pickF ?_); refine q0 rfl (o_pickF ?_); refine q0 rfl (o_move ?_); refine qT rfl rfl rfl (o_move ?_); refine qT rfl rfl rfl (o_eqI ?_); refine q0 rfl (o_pickF ?_); refine q0 rfl (o_assign ?_); refine rg_nil ?_; exact hK _ ⟨rfl, rfl, rfl, (by (conv => lhs; whnf); first | (simp_all [letter]; done) | (simp_all [letter]; omega)), rfl, rfl, trivial⟩
          · refine qF rfl rfl rfl ?_; refine qF rfl rfl rfl ?_; refine qU rfl rfl rfl ?_; refine qU rfl rfl rfl ?_; refine qF rfl rfl rfl ?_; refine q0 rfl (o_pickT ?_); refine q0 rfl (o_move ?_); refine qF rfl rfl rfl ?_; refine qF rfl rfl rfl ?_; refine q0 rfl (o_pickT ?_); refine q0 rfl (o_assign ?_); refine rg_nil ?_; exact hK _ ⟨rfl, rfl, rfl, (by (conv => lhs; whnf); first | (simp_all [letter]; done) | (simp_all [letter]; omega)), rfl, rfl, trivial⟩
        · refine qF rfl rfl rfl ?_; refine q0 rfl (o_pickF ?_); refine q0 rfl (o_move ?_); refine qT rfl rfl rfl (o_move ?_); refine qT rfl rfl rfl (o_geq ?_); refine qT rfl rfl rfl (o_move ?_); refine qI rfl rfl rfl wl_ (fun hg23 => o_move ?_) (fun hg23 => ?_)
          · refine qT rfl rfl rfl (o_leq ?_); refine qT rfl rfl rfl (o_pickT ?_); refine q0 rfl (o_pickF ?_); refine q0 rfl (o_move ?_); refine qI rfl rfl rfl wl_ (fun hg28 => o_move ?_) (fun hg28 => ?_)
            · refine qT rfl rfl rfl (o_eqI ?_); refine q0 rfl (o_pickF ?_); refine q0 rfl (o_assign ?_); refine rg_nil ?_; exact hK _ ⟨rfl, rfl, rfl, (by (conv => lhs; whnf); first | (simp_all [letter]; done) | (simp_all [letter]; omega)), rfl, rfl, trivial⟩
            · refine qF rfl rfl rfl ?_; refine q0 rfl (o_pickT ?_); refine q0 rfl (o_assign ?_); refine rg_nil ?_; exact hK _ ⟨rfl, rfl, rfl, (by (conv => lhs; whnf); first | (simp_all [letter]; done) | (simp_all [letter]; omega)), rfl, rfl, trivial⟩
          · refine qF rfl rfl rfl ?_; refine qT rfl rfl rfl (o_pickF ?_); refine q0 rfl (o_pickF ?_); refine q0 rfl (o_move ?_); refine qT rfl rfl rfl (o_move ?_); refine qT rfl rfl rfl (o_eqI ?_); refine q0 rfl (o_pickF ?_); refine q0 rfl (o_assign ?_); refine rg_nil ?_; exact hK _ ⟨rfl, rfl, rfl, (by (conv => lhs; whnf); first | (simp_all [letter]; done) | (simp_all [letter]; omega)), rfl, rfl, trivial⟩
      · refine go_seq ?_; refine go_cutS ([(0, .string s), (7, .int .i64 (s.size : Int)), (8, .int .i64 (i : Int)), (45, .bool (!(okAt s i)))]) (fun hK => ?_) (fun base => ?_)
        · refine go_region ⟨_, Tryz.func93⟩ rfl ?_; refine q0 rfl (o_move ?_); refine q0 rfl (o_not ?_); refine q0 rfl (o_move ?_); refine qI rfl rfl rfl wl_ (fun hg34 => o_move ?_) (fun hg34 => ?_)
          · refine qT rfl rfl rfl (o_eqI ?_); refine qT rfl rfl rfl (o_move ?_); refine qI rfl rfl rfl wl_ (fun hg37 => o_move ?_) (fun hg37 => ?_)
            · refine qT rfl rfl rfl (o_lss ?_); refine qT rfl rfl rfl (o_pickF ?_); refine qT rfl rfl rfl (o_move ?_); refine qI rfl rfl rfl wl_ (fun hg41 => o_move ?_) (fun hg41 => ?_)
              · refine qT rfl rfl rfl (o_gtr ?_); refine qT rfl rfl rfl (o_pickF ?_); refine q0 rfl (o_pickT ?_); refine rg_nil ?_; exact hK _ ⟨rfl, rfl, rfl, (by (conv => lhs; whnf); rw [hca]; first | (simp_all [digit]; done) | (simp_all [digit]; omega) | (simp_all [digit]; rw [← decide_not]; congr 1; apply propext; omega)), trivial⟩
              · refine qF rfl rfl rfl ?_; refine qT rfl rfl rfl (o_pickT ?_); refine q0 rfl (o_pickT ?_); refine rg_nil ?_; exact hK _ ⟨rfl, rfl, rfl, (by (conv => lhs; whnf); rw [hca]; first | (simp_all [digit]; done) | (simp_all [digit]; omega) | (simp_all [digit]; rw [← decide_not]; congr 1; apply propext; omega)), trivial⟩
            · refine qF rfl rfl rfl ?_; refine qT rfl rfl rfl (o_pickT ?_); refine qT rfl rfl rfl (o_move ?_); refine qF rfl rfl rfl ?_; refine qF rfl rfl rfl ?_; refine qT rfl rfl rfl (o_pickT ?_); refine q0 rfl (o_pickT ?_); refine rg_nil ?_; exact hK _ ⟨rfl, rfl, rfl, (by (conv => lhs; whnf); rw [hca]; first | (simp_all [digit]; done) | (simp_all [digit]; omega) | (simp_all [digit]; rw [← decide_not]; congr 1; apply propext; omega)), trivial⟩
          · refine qF rfl rfl rfl ?_; refine qF rfl rfl rfl ?_; refine qU rfl rfl rfl ?_; refine qU rfl rfl rfl ?_; refine qF rfl rfl rfl ?_; refine qF rfl rfl rfl ?_; refine qU rfl rfl rfl ?_; refine qU rfl rfl rfl ?_; refine qF rfl rfl rfl ?_; refine q0 rfl (o_pickF ?_); refine rg_nil ?_; exact hK _ ⟨rfl, rfl, rfl, (by (conv => lhs; whnf); rw [hca]; first | (simp_all [digit]; done) | (simp_all [digit]; omega) | (simp_all [digit]; rw [← decide_not]; congr 1; apply propext; omega)), trivial⟩
        · refine go_condI (fun h45 => ?_) (fun h45 => ?_)
          · refine go_seq ?_; refine go_region ⟨_, Tryz.func93⟩ rfl ?_; refine q0 rfl (o_assign ?_); refine rg_nil ?_; refine ret1 Tryz.func93 Tryz.results93 wn_ () (by rw [nameOK_not hlt (by simpa using h45)]) (fun w hs => hs.none)
          · refine go_skip ?_; refine go_inBlock ?_; refine go_region ⟨_, Tryz.func93⟩ rfl ?_; refine q0 rfl (o_add ?_); refine q0 rfl (o_move ?_); refine rg_nil ?_; have hb : okAt s i = true := by simpa using h45
            refine go_state (fun w hs => hs) (next0 (i + 1) _ ⟨hlt, fun j hj => (by rcases Nat.lt_succ_iff_lt_or_eq.mp hj with h | h; exact hok j h; subst h; exact hb)⟩ (by omega) ⟨rfl, rfl, rfl, trivial⟩)
    · have hge : i = s.size := by have := of_decide_eq_false h9; omega
      refine go_exit rfl ?_; refine go_seq ?_; refine go_region ⟨_, Tryz.func93⟩ rfl ?_; refine q0 rfl (o_move ?_); refine q0 rfl (o_neS ?_); refine q0 rfl (o_assign ?_); refine rg_nil ?_; refine ret1 Tryz.func93 Tryz.results93 wn_ () (by rw [nameOK_all (by rw [← hge]; exact hok), empty_eq]; rfl) (fun w hs => hs.none)
theorem within_spec (hF : FDims) (l : List Cl) (a : SH) (dims : Int) (h0 : 0 ≤ dims) (hl : in64 dims) : Spec Tryz.prog 95 #[sl a l.length, .int .i64 dims] [CL l a] [] (fun _ : Unit => .bool (within l dims)) (fun _ => []) (fun _ => []) := by
  refine spec_go (args := [sl a l.length, .int .i64 dims]) Tryz.func95 Tryz.ntmps95 rfl (by exact Nat.le_of_ble_eq_true rfl) fun B hB => ?_
  refine go_seq ?_; refine go_region ⟨_, Tryz.func95⟩ rfl ?_; refine q0 rfl (o_assign ?_); refine rg_nil ?_; refine go_seq ?_; refine go_region ⟨_, Tryz.func95⟩ rfl ?_; refine q0 rfl (o_move ?_); refine q0 rfl (o_geq ?_); refine q0 rfl (o_move ?_); refine qI rfl rfl rfl wl_ (fun hg7 => o_move ?_) (fun hg7 => ?_)
  · refine qT rfl rfl rfl (o_call Tryz.call112 (hF l a) (fun x9 => ?_)); refine qT rfl rfl rfl (o_move ?_); refine qT rfl rfl rfl (o_conv ?_); refine qT rfl rfl rfl (o_shrU32 ?_ (m := dims.toNat) (hy := congrArg (Value.int .u64) (toNat_u64 h0 hl))); refine qT rfl rfl rfl (o_eqI ?_); refine q0 rfl (o_pickF ?_); refine q0 rfl (o_assign ?_); refine rg_nil ?_; refine ret1 Tryz.func95 Tryz.results95 wn_ () (by first | (simp_all [within]; done) | (simp_all [within]; intros; omega)) (fun w hs => hs.none)
  · refine qF rfl rfl rfl ?_; refine qF rfl rfl rfl ?_; refine qF rfl rfl rfl ?_; refine qF rfl rfl rfl ?_; refine qF rfl rfl rfl ?_; refine q0 rfl (o_pickT ?_); refine q0 rfl (o_assign ?_); refine rg_nil ?_; refine ret1 Tryz.func95 Tryz.results95 wn_ () (by first | (simp_all [within]; done) | (simp_all [within]; intros; omega)) (fun w hs => hs.none)
end Go.Hy
