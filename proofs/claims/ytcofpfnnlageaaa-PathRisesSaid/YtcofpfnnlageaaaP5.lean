/- Contracts of this program's functions and the laws that they need: a separation logic over the machine's rules, one theorem each (partly printed by a program of this repository). -/
import Derived.Test.YtcofpfnnlageaaaProg
import Derived.KernelRfl
import Derived.Test.YtcofpfnnlageaaaP2
import Derived.Test.YtcofpfnnlageaaaP3
/- THE TYPES' TABLE of this seat's program, printed by mk_tab.py (a program of this repository): each row is checked by the kernel against the loaded program. -/
namespace Go.Proofs.Ytcofpfnnlageaaa.Hy
set_option linter.unusedVariables false
set_option linter.unusedSimpArgs false
set_option linter.unusedSectionVars false
open Go.Proofs
set_option maxRecDepth 100000
def tabU : Nat → Option (TypeDesc)
  | 1 => some (.func #[] #[] false)
  | 2 => some (.int .i64)
  | 3 => some (.int .i64)
  | 4 => some (.bool)
  | 5 => some (.int .u8)
  | 9 => some (.string)
  | 12 => some (.int .u64)
  | 21 => some (.int .i32)
  | 23 => some (.func #[3, 3] #[3, 3] false)
  | 24 => some (.func #[3] #[3] false)
  | 25 => some (.func #[] #[4] false)
  | 26 => some (.func #[3, 3] #[4] false)
  | 27 => some (.slice 72)
  | 28 => some (.slice 31)
  | 29 => some (.slice 69)
  | 32 => some (.func #[31] #[4] false)
  | 33 => some (.func #[31] #[31] false)
  | 34 => some (.func #[31] #[3] false)
  | 35 => some (.func #[31, 31] #[4] false)
  | 36 => some (.func #[31] #[] false)
  | 37 => some (.int .i64)
  | 38 => some (.func #[31, 3, 3] #[37] false)
  | 39 => some (.func #[31, 3, 3] #[3] false)
  | 40 => some (.func #[31] #[37] false)
  | 41 => some (.func #[31, 3, 3] #[4] false)
  | 42 => some (.func #[31, 31, 3, 3] #[4] false)
  | 43 => some (.int .u64)
  | 44 => some (.func #[31, 3] #[4] false)
  | 45 => some (.int .u32)
  | 46 => some (.func #[31] #[45] false)
  | 47 => some (.int .u64)
  | 48 => some (.func #[31, 3, 3, 3] #[4] false)
  | 49 => some (.func #[31, 3] #[3] false)
  | 50 => some (.func #[31, 54] #[4] false)
  | 51 => some (.slice 54)
  | 53 => some (.func #[31] #[51, 37] false)
  | 54 => some (.slice 3)
  | 55 => some (.func #[54, 54] #[4] false)
  | 57 => some (.func #[31, 54, 31] #[31, 37] false)
  | 58 => some (.func #[31, 3, 3, 31, 31] #[4] false)
  | 62 => some (.func #[31, 54] #[60, 37] false)
  | 63 => some (.func #[31, 54, 31] #[4] false)
  | 64 => some (.func #[54, 54] #[3] false)
  | 65 => some (.slice 60)
  | 66 => some (.func #[31] #[65] false)
  | 67 => some (.array 29 3)
  | 70 => some (.func #[27] #[27] false)
  | 73 => some (.func #[28] #[28] false)
  | 74 => some (.func #[31, 41] #[4] false)
  | 75 => some (.func #[27, 27] #[4] false)
  | 76 => some (.func #[28, 28, 35] #[4] false)
  | 77 => some (.func #[29, 29, 78] #[4] false)
  | 78 => some (.func #[69, 69] #[4] false)
  | 79 => some (.func #[28, 28] #[4] false)
  | 80 => some (.func #[31, 3, 3, 4] #[4] false)
  | 81 => some (.func #[27] #[45] false)
  | 82 => some (.func #[45, 3] #[45] false)
  | 83 => some (.func #[51, 54, 31] #[51] false)
  | 84 => some (.func #[85, 54, 31] #[4] false)
  | 85 => some (.pointer 31)
  | 86 => some (.func #[3, 3] #[3] false)
  | 87 => some (.func #[9] #[4] false)
  | 88 => some (.func #[27] #[4] false)
  | 89 => some (.func #[27, 3] #[4] false)
  | 90 => some (.func #[3] #[4] false)
  | 91 => some (.func #[3] #[45] false)
  | 92 => some (.func #[54] #[54] false)
  | 94 => some (.func #[27] #[27, 3] false)
  | 95 => some (.func #[72] #[4] false)
  | 96 => some (.func #[45] #[54] false)
  | 98 => some (.func #[27] #[27, 37] false)
  | 99 => some (.func #[27, 95] #[4] false)
  | 100 => some (.func #[27, 72] #[4] false)
  | 101 => some (.func #[72, 72] #[4] false)
  | 102 => some (.func #[45, 3] #[4] false)
  | 103 => some (.func #[54] #[45] false)
  | 104 => some (.map 72 4)
  | 105 => some (.func #[27, 106] #[] false)
  | 106 => some (.func #[72, 72] #[3] false)
  | 107 => some (.func #[27, 95] #[3] false)
  | 108 => some (.func #[45] #[4] false)
  | 109 => some (.func #[72, 72] #[72] false)
  | 110 => some (.func #[27, 3, 3, 3, 106] #[] false)
  | 111 => some (.func #[47] #[3] false)
  | 112 => some (.func #[45, 45] #[3] false)
  | 113 => some (.func #[27, 3, 3, 106] #[] false)
  | 114 => some (.int .i64)
  | 116 => some (.func #[27, 3, 3, 106] #[3, 114] false)
  | 117 => some (.func #[27, 3, 3, 106] #[4] false)
  | 118 => some (.func #[27, 3, 3, 3, 106] #[3] false)
  | 120 => some (.func #[27, 3, 3, 3, 106] #[3, 4] false)
  | 121 => some (.func #[45] #[3] false)
  | 122 => some (.func #[43] #[3] false)
  | 124 => some (.func #[3] #[47] false)
  | 125 => some (.func #[] #[43] false)
  | 126 => some (.func #[27, 3, 127, 106] #[3] false)
  | 127 => some (.pointer 3)
  | 128 => some (.func #[27, 3, 3, 3, 127, 106] #[3] false)
  | 130 => some (.func #[27, 3, 3, 127, 106] #[3, 3] false)
  | 131 => some (.func #[] #[9] false)
  | 137 => some (.func #[] #[3] false)
  | 141 => some (.pointer 5)
  | _ => none
def tabI : Nat → Option (Nat × Nat × Value)
  | 1 => some (1, 8, .nilFunc)
  | 2 => some (1, 8, .int .i64 0)
  | 3 => some (1, 8, .int .i64 0)
  | 4 => some (1, 1, .bool false)
  | 5 => some (1, 1, .int .u8 0)
  | 9 => some (1, 16, .string ⟨#[]⟩)
  | 12 => some (1, 8, .int .u64 0)
  | 20 => some (1, 16, .nilIface)
  | 21 => some (1, 4, .int .i32 0)
  | 23 => some (1, 8, .nilFunc)
  | 24 => some (1, 8, .nilFunc)
  | 25 => some (1, 8, .nilFunc)
  | 26 => some (1, 8, .nilFunc)
  | 27 => some (1, 24, .slice none 0 0)
  | 28 => some (1, 24, .slice none 0 0)
  | 29 => some (1, 24, .slice none 0 0)
  | 30 => some (6, 104, .agg #[.int .i64 0, .int .i64 0, .string ⟨#[]⟩, .slice none 0 0, .slice none 0 0, .slice none 0 0])
  | 31 => some (6, 104, .agg #[.int .i64 0, .int .i64 0, .string ⟨#[]⟩, .slice none 0 0, .slice none 0 0, .slice none 0 0])
  | 32 => some (1, 8, .nilFunc)
  | 33 => some (1, 8, .nilFunc)
  | 34 => some (1, 8, .nilFunc)
  | 35 => some (1, 8, .nilFunc)
  | 36 => some (1, 8, .nilFunc)
  | 37 => some (1, 8, .int .i64 0)
  | 38 => some (1, 8, .nilFunc)
  | 39 => some (1, 8, .nilFunc)
  | 40 => some (1, 8, .nilFunc)
  | 41 => some (1, 8, .nilFunc)
  | 42 => some (1, 8, .nilFunc)
  | 43 => some (1, 8, .int .u64 0)
  | 44 => some (1, 8, .nilFunc)
  | 45 => some (1, 4, .int .u32 0)
  | 46 => some (1, 8, .nilFunc)
  | 47 => some (1, 8, .int .u64 0)
  | 48 => some (1, 8, .nilFunc)
  | 49 => some (1, 8, .nilFunc)
  | 50 => some (1, 8, .nilFunc)
  | 51 => some (1, 24, .slice none 0 0)
  | 53 => some (1, 8, .nilFunc)
  | 54 => some (1, 24, .slice none 0 0)
  | 55 => some (1, 8, .nilFunc)
  | 57 => some (1, 8, .nilFunc)
  | 58 => some (1, 8, .nilFunc)
  | 59 => some (8, 120, .agg #[.int .i64 0, .int .i64 0, .string ⟨#[]⟩, .slice none 0 0, .slice none 0 0, .slice none 0 0, .int .i64 0, .int .i64 0])
  | 60 => some (8, 120, .agg #[.int .i64 0, .int .i64 0, .string ⟨#[]⟩, .slice none 0 0, .slice none 0 0, .slice none 0 0, .int .i64 0, .int .i64 0])
  | 62 => some (1, 8, .nilFunc)
  | 63 => some (1, 8, .nilFunc)
  | 64 => some (1, 8, .nilFunc)
  | 65 => some (1, 24, .slice none 0 0)
  | 66 => some (1, 8, .nilFunc)
  | 67 => some (29, 232, .agg #[.int .i64 0, .int .i64 0, .int .i64 0, .int .i64 0, .int .i64 0, .int .i64 0, .int .i64 0, .int .i64 0, .int .i64 0, .int .i64 0, .int .i64 0, .int .i64 0, .int .i64 0, .int .i64 0, .int .i64 0, .int .i64 0, .int .i64 0, .int .i64 0, .int .i64 0, .int .i64 0, .int .i64 0, .int .i64 0, .int .i64 0, .int .i64 0, .int .i64 0, .int .i64 0, .int .i64 0, .int .i64 0, .int .i64 0])
  | 68 => some (2, 48, .agg #[.slice none 0 0, .slice none 0 0])
  | 69 => some (2, 48, .agg #[.slice none 0 0, .slice none 0 0])
  | 70 => some (1, 8, .nilFunc)
  | 71 => some (2, 8, .agg #[.int .u32 0, .int .u32 0])
  | 72 => some (2, 8, .agg #[.int .u32 0, .int .u32 0])
  | 73 => some (1, 8, .nilFunc)
  | 74 => some (1, 8, .nilFunc)
  | 75 => some (1, 8, .nilFunc)
  | 76 => some (1, 8, .nilFunc)
  | 77 => some (1, 8, .nilFunc)
  | 78 => some (1, 8, .nilFunc)
  | 79 => some (1, 8, .nilFunc)
  | 80 => some (1, 8, .nilFunc)
  | 81 => some (1, 8, .nilFunc)
  | 82 => some (1, 8, .nilFunc)
  | 83 => some (1, 8, .nilFunc)
  | 84 => some (1, 8, .nilFunc)
  | 85 => some (1, 8, .pointer none)
  | 86 => some (1, 8, .nilFunc)
  | 87 => some (1, 8, .nilFunc)
  | 88 => some (1, 8, .nilFunc)
  | 89 => some (1, 8, .nilFunc)
  | 90 => some (1, 8, .nilFunc)
  | 91 => some (1, 8, .nilFunc)
  | 92 => some (1, 8, .nilFunc)
  | 94 => some (1, 8, .nilFunc)
  | 95 => some (1, 8, .nilFunc)
  | 96 => some (1, 8, .nilFunc)
  | 98 => some (1, 8, .nilFunc)
  | 99 => some (1, 8, .nilFunc)
  | 100 => some (1, 8, .nilFunc)
  | 101 => some (1, 8, .nilFunc)
  | 102 => some (1, 8, .nilFunc)
  | 103 => some (1, 8, .nilFunc)
  | 104 => some (1, 8, .map none)
  | 105 => some (1, 8, .nilFunc)
  | 106 => some (1, 8, .nilFunc)
  | 107 => some (1, 8, .nilFunc)
  | 108 => some (1, 8, .nilFunc)
  | 109 => some (1, 8, .nilFunc)
  | 110 => some (1, 8, .nilFunc)
  | 111 => some (1, 8, .nilFunc)
  | 112 => some (1, 8, .nilFunc)
  | 113 => some (1, 8, .nilFunc)
  | 114 => some (1, 8, .int .i64 0)
  | 116 => some (1, 8, .nilFunc)
  | 117 => some (1, 8, .nilFunc)
  | 118 => some (1, 8, .nilFunc)
  | 120 => some (1, 8, .nilFunc)
  | 121 => some (1, 8, .nilFunc)
  | 122 => some (1, 8, .nilFunc)
  | 124 => some (1, 8, .nilFunc)
  | 125 => some (1, 8, .nilFunc)
  | 126 => some (1, 8, .nilFunc)
  | 127 => some (1, 8, .pointer none)
  | 128 => some (1, 8, .nilFunc)
  | 130 => some (1, 8, .nilFunc)
  | 131 => some (1, 8, .nilFunc)
  | 137 => some (1, 8, .nilFunc)
  | 141 => some (1, 8, .pointer none)
  | _ => none
def tabL : Nat → Option (List (Nat × Nat))
  | 30 => some ([(0, 1), (1, 1), (2, 1), (3, 1), (4, 1), (5, 1)])
  | 31 => some ([(0, 1), (1, 1), (2, 1), (3, 1), (4, 1), (5, 1)])
  | 59 => some ([(0, 6), (6, 1), (7, 1)])
  | 60 => some ([(0, 6), (6, 1), (7, 1)])
  | 68 => some ([(0, 1), (1, 1)])
  | 69 => some ([(0, 1), (1, 1)])
  | 71 => some ([(0, 1), (1, 1)])
  | 72 => some ([(0, 1), (1, 1)])
  | _ => none
def tabF (t j : Nat) : Option Nat := (tabL t).bind fun l => (l[j]?).map (·.1)
theorem inf1 : (Try.prog.info? 1).map (fun i => (i.size, i.bytes, i.zero)) = some (1, 8, some (.nilFunc)) := by kernel_rfl
theorem inf2 : (Try.prog.info? 2).map (fun i => (i.size, i.bytes, i.zero)) = some (1, 8, some (.int .i64 0)) := by kernel_rfl
theorem inf3 : (Try.prog.info? 3).map (fun i => (i.size, i.bytes, i.zero)) = some (1, 8, some (.int .i64 0)) := by kernel_rfl
theorem inf4 : (Try.prog.info? 4).map (fun i => (i.size, i.bytes, i.zero)) = some (1, 1, some (.bool false)) := by kernel_rfl
theorem inf5 : (Try.prog.info? 5).map (fun i => (i.size, i.bytes, i.zero)) = some (1, 1, some (.int .u8 0)) := by kernel_rfl
theorem inf9 : (Try.prog.info? 9).map (fun i => (i.size, i.bytes, i.zero)) = some (1, 16, some (.string ⟨#[]⟩)) := by kernel_rfl
theorem inf12 : (Try.prog.info? 12).map (fun i => (i.size, i.bytes, i.zero)) = some (1, 8, some (.int .u64 0)) := by kernel_rfl
theorem inf20 : (Try.prog.info? 20).map (fun i => (i.size, i.bytes, i.zero)) = some (1, 16, some (.nilIface)) := by kernel_rfl
theorem inf21 : (Try.prog.info? 21).map (fun i => (i.size, i.bytes, i.zero)) = some (1, 4, some (.int .i32 0)) := by kernel_rfl
theorem inf23 : (Try.prog.info? 23).map (fun i => (i.size, i.bytes, i.zero)) = some (1, 8, some (.nilFunc)) := by kernel_rfl
theorem inf24 : (Try.prog.info? 24).map (fun i => (i.size, i.bytes, i.zero)) = some (1, 8, some (.nilFunc)) := by kernel_rfl
theorem inf25 : (Try.prog.info? 25).map (fun i => (i.size, i.bytes, i.zero)) = some (1, 8, some (.nilFunc)) := by kernel_rfl
theorem inf26 : (Try.prog.info? 26).map (fun i => (i.size, i.bytes, i.zero)) = some (1, 8, some (.nilFunc)) := by kernel_rfl
theorem inf27 : (Try.prog.info? 27).map (fun i => (i.size, i.bytes, i.zero)) = some (1, 24, some (.slice none 0 0)) := by kernel_rfl
theorem inf28 : (Try.prog.info? 28).map (fun i => (i.size, i.bytes, i.zero)) = some (1, 24, some (.slice none 0 0)) := by kernel_rfl
theorem inf29 : (Try.prog.info? 29).map (fun i => (i.size, i.bytes, i.zero)) = some (1, 24, some (.slice none 0 0)) := by kernel_rfl
theorem inf30 : (Try.prog.info? 30).map (fun i => (i.size, i.bytes, i.zero)) = some (6, 104, some (.agg #[.int .i64 0, .int .i64 0, .string ⟨#[]⟩, .slice none 0 0, .slice none 0 0, .slice none 0 0])) := by kernel_rfl
theorem inf31 : (Try.prog.info? 31).map (fun i => (i.size, i.bytes, i.zero)) = some (6, 104, some (.agg #[.int .i64 0, .int .i64 0, .string ⟨#[]⟩, .slice none 0 0, .slice none 0 0, .slice none 0 0])) := by kernel_rfl
theorem inf32 : (Try.prog.info? 32).map (fun i => (i.size, i.bytes, i.zero)) = some (1, 8, some (.nilFunc)) := by kernel_rfl
theorem inf33 : (Try.prog.info? 33).map (fun i => (i.size, i.bytes, i.zero)) = some (1, 8, some (.nilFunc)) := by kernel_rfl
theorem inf34 : (Try.prog.info? 34).map (fun i => (i.size, i.bytes, i.zero)) = some (1, 8, some (.nilFunc)) := by kernel_rfl
theorem inf35 : (Try.prog.info? 35).map (fun i => (i.size, i.bytes, i.zero)) = some (1, 8, some (.nilFunc)) := by kernel_rfl
theorem inf36 : (Try.prog.info? 36).map (fun i => (i.size, i.bytes, i.zero)) = some (1, 8, some (.nilFunc)) := by kernel_rfl
theorem inf37 : (Try.prog.info? 37).map (fun i => (i.size, i.bytes, i.zero)) = some (1, 8, some (.int .i64 0)) := by kernel_rfl
theorem inf38 : (Try.prog.info? 38).map (fun i => (i.size, i.bytes, i.zero)) = some (1, 8, some (.nilFunc)) := by kernel_rfl
theorem inf39 : (Try.prog.info? 39).map (fun i => (i.size, i.bytes, i.zero)) = some (1, 8, some (.nilFunc)) := by kernel_rfl
theorem inf40 : (Try.prog.info? 40).map (fun i => (i.size, i.bytes, i.zero)) = some (1, 8, some (.nilFunc)) := by kernel_rfl
theorem inf41 : (Try.prog.info? 41).map (fun i => (i.size, i.bytes, i.zero)) = some (1, 8, some (.nilFunc)) := by kernel_rfl
theorem inf42 : (Try.prog.info? 42).map (fun i => (i.size, i.bytes, i.zero)) = some (1, 8, some (.nilFunc)) := by kernel_rfl
theorem inf43 : (Try.prog.info? 43).map (fun i => (i.size, i.bytes, i.zero)) = some (1, 8, some (.int .u64 0)) := by kernel_rfl
theorem inf44 : (Try.prog.info? 44).map (fun i => (i.size, i.bytes, i.zero)) = some (1, 8, some (.nilFunc)) := by kernel_rfl
theorem inf45 : (Try.prog.info? 45).map (fun i => (i.size, i.bytes, i.zero)) = some (1, 4, some (.int .u32 0)) := by kernel_rfl
theorem inf46 : (Try.prog.info? 46).map (fun i => (i.size, i.bytes, i.zero)) = some (1, 8, some (.nilFunc)) := by kernel_rfl
theorem inf47 : (Try.prog.info? 47).map (fun i => (i.size, i.bytes, i.zero)) = some (1, 8, some (.int .u64 0)) := by kernel_rfl
theorem inf48 : (Try.prog.info? 48).map (fun i => (i.size, i.bytes, i.zero)) = some (1, 8, some (.nilFunc)) := by kernel_rfl
theorem inf49 : (Try.prog.info? 49).map (fun i => (i.size, i.bytes, i.zero)) = some (1, 8, some (.nilFunc)) := by kernel_rfl
theorem inf50 : (Try.prog.info? 50).map (fun i => (i.size, i.bytes, i.zero)) = some (1, 8, some (.nilFunc)) := by kernel_rfl
theorem inf51 : (Try.prog.info? 51).map (fun i => (i.size, i.bytes, i.zero)) = some (1, 24, some (.slice none 0 0)) := by kernel_rfl
theorem inf53 : (Try.prog.info? 53).map (fun i => (i.size, i.bytes, i.zero)) = some (1, 8, some (.nilFunc)) := by kernel_rfl
theorem inf54 : (Try.prog.info? 54).map (fun i => (i.size, i.bytes, i.zero)) = some (1, 24, some (.slice none 0 0)) := by kernel_rfl
theorem inf55 : (Try.prog.info? 55).map (fun i => (i.size, i.bytes, i.zero)) = some (1, 8, some (.nilFunc)) := by kernel_rfl
theorem inf57 : (Try.prog.info? 57).map (fun i => (i.size, i.bytes, i.zero)) = some (1, 8, some (.nilFunc)) := by kernel_rfl
theorem inf58 : (Try.prog.info? 58).map (fun i => (i.size, i.bytes, i.zero)) = some (1, 8, some (.nilFunc)) := by kernel_rfl
theorem inf59 : (Try.prog.info? 59).map (fun i => (i.size, i.bytes, i.zero)) = some (8, 120, some (.agg #[.int .i64 0, .int .i64 0, .string ⟨#[]⟩, .slice none 0 0, .slice none 0 0, .slice none 0 0, .int .i64 0, .int .i64 0])) := by kernel_rfl
theorem inf60 : (Try.prog.info? 60).map (fun i => (i.size, i.bytes, i.zero)) = some (8, 120, some (.agg #[.int .i64 0, .int .i64 0, .string ⟨#[]⟩, .slice none 0 0, .slice none 0 0, .slice none 0 0, .int .i64 0, .int .i64 0])) := by kernel_rfl
theorem inf62 : (Try.prog.info? 62).map (fun i => (i.size, i.bytes, i.zero)) = some (1, 8, some (.nilFunc)) := by kernel_rfl
theorem inf63 : (Try.prog.info? 63).map (fun i => (i.size, i.bytes, i.zero)) = some (1, 8, some (.nilFunc)) := by kernel_rfl
theorem inf64 : (Try.prog.info? 64).map (fun i => (i.size, i.bytes, i.zero)) = some (1, 8, some (.nilFunc)) := by kernel_rfl
theorem inf65 : (Try.prog.info? 65).map (fun i => (i.size, i.bytes, i.zero)) = some (1, 24, some (.slice none 0 0)) := by kernel_rfl
theorem inf66 : (Try.prog.info? 66).map (fun i => (i.size, i.bytes, i.zero)) = some (1, 8, some (.nilFunc)) := by kernel_rfl
theorem inf67 : (Try.prog.info? 67).map (fun i => (i.size, i.bytes, i.zero)) = some (29, 232, some (.agg #[.int .i64 0, .int .i64 0, .int .i64 0, .int .i64 0, .int .i64 0, .int .i64 0, .int .i64 0, .int .i64 0, .int .i64 0, .int .i64 0, .int .i64 0, .int .i64 0, .int .i64 0, .int .i64 0, .int .i64 0, .int .i64 0, .int .i64 0, .int .i64 0, .int .i64 0, .int .i64 0, .int .i64 0, .int .i64 0, .int .i64 0, .int .i64 0, .int .i64 0, .int .i64 0, .int .i64 0, .int .i64 0, .int .i64 0])) := by kernel_rfl
theorem inf68 : (Try.prog.info? 68).map (fun i => (i.size, i.bytes, i.zero)) = some (2, 48, some (.agg #[.slice none 0 0, .slice none 0 0])) := by kernel_rfl
theorem inf69 : (Try.prog.info? 69).map (fun i => (i.size, i.bytes, i.zero)) = some (2, 48, some (.agg #[.slice none 0 0, .slice none 0 0])) := by kernel_rfl
theorem inf70 : (Try.prog.info? 70).map (fun i => (i.size, i.bytes, i.zero)) = some (1, 8, some (.nilFunc)) := by kernel_rfl
theorem inf71 : (Try.prog.info? 71).map (fun i => (i.size, i.bytes, i.zero)) = some (2, 8, some (.agg #[.int .u32 0, .int .u32 0])) := by kernel_rfl
theorem inf72 : (Try.prog.info? 72).map (fun i => (i.size, i.bytes, i.zero)) = some (2, 8, some (.agg #[.int .u32 0, .int .u32 0])) := by kernel_rfl
theorem inf73 : (Try.prog.info? 73).map (fun i => (i.size, i.bytes, i.zero)) = some (1, 8, some (.nilFunc)) := by kernel_rfl
theorem inf74 : (Try.prog.info? 74).map (fun i => (i.size, i.bytes, i.zero)) = some (1, 8, some (.nilFunc)) := by kernel_rfl
theorem inf75 : (Try.prog.info? 75).map (fun i => (i.size, i.bytes, i.zero)) = some (1, 8, some (.nilFunc)) := by kernel_rfl
theorem inf76 : (Try.prog.info? 76).map (fun i => (i.size, i.bytes, i.zero)) = some (1, 8, some (.nilFunc)) := by kernel_rfl
theorem inf77 : (Try.prog.info? 77).map (fun i => (i.size, i.bytes, i.zero)) = some (1, 8, some (.nilFunc)) := by kernel_rfl
theorem inf78 : (Try.prog.info? 78).map (fun i => (i.size, i.bytes, i.zero)) = some (1, 8, some (.nilFunc)) := by kernel_rfl
theorem inf79 : (Try.prog.info? 79).map (fun i => (i.size, i.bytes, i.zero)) = some (1, 8, some (.nilFunc)) := by kernel_rfl
theorem inf80 : (Try.prog.info? 80).map (fun i => (i.size, i.bytes, i.zero)) = some (1, 8, some (.nilFunc)) := by kernel_rfl
theorem inf81 : (Try.prog.info? 81).map (fun i => (i.size, i.bytes, i.zero)) = some (1, 8, some (.nilFunc)) := by kernel_rfl
theorem inf82 : (Try.prog.info? 82).map (fun i => (i.size, i.bytes, i.zero)) = some (1, 8, some (.nilFunc)) := by kernel_rfl
theorem inf83 : (Try.prog.info? 83).map (fun i => (i.size, i.bytes, i.zero)) = some (1, 8, some (.nilFunc)) := by kernel_rfl
theorem inf84 : (Try.prog.info? 84).map (fun i => (i.size, i.bytes, i.zero)) = some (1, 8, some (.nilFunc)) := by kernel_rfl
theorem inf85 : (Try.prog.info? 85).map (fun i => (i.size, i.bytes, i.zero)) = some (1, 8, some (.pointer none)) := by kernel_rfl
theorem inf86 : (Try.prog.info? 86).map (fun i => (i.size, i.bytes, i.zero)) = some (1, 8, some (.nilFunc)) := by kernel_rfl
theorem inf87 : (Try.prog.info? 87).map (fun i => (i.size, i.bytes, i.zero)) = some (1, 8, some (.nilFunc)) := by kernel_rfl
theorem inf88 : (Try.prog.info? 88).map (fun i => (i.size, i.bytes, i.zero)) = some (1, 8, some (.nilFunc)) := by kernel_rfl
theorem inf89 : (Try.prog.info? 89).map (fun i => (i.size, i.bytes, i.zero)) = some (1, 8, some (.nilFunc)) := by kernel_rfl
theorem inf90 : (Try.prog.info? 90).map (fun i => (i.size, i.bytes, i.zero)) = some (1, 8, some (.nilFunc)) := by kernel_rfl
theorem inf91 : (Try.prog.info? 91).map (fun i => (i.size, i.bytes, i.zero)) = some (1, 8, some (.nilFunc)) := by kernel_rfl
theorem inf92 : (Try.prog.info? 92).map (fun i => (i.size, i.bytes, i.zero)) = some (1, 8, some (.nilFunc)) := by kernel_rfl
theorem inf94 : (Try.prog.info? 94).map (fun i => (i.size, i.bytes, i.zero)) = some (1, 8, some (.nilFunc)) := by kernel_rfl
theorem inf95 : (Try.prog.info? 95).map (fun i => (i.size, i.bytes, i.zero)) = some (1, 8, some (.nilFunc)) := by kernel_rfl
theorem inf96 : (Try.prog.info? 96).map (fun i => (i.size, i.bytes, i.zero)) = some (1, 8, some (.nilFunc)) := by kernel_rfl
theorem inf98 : (Try.prog.info? 98).map (fun i => (i.size, i.bytes, i.zero)) = some (1, 8, some (.nilFunc)) := by kernel_rfl
theorem inf99 : (Try.prog.info? 99).map (fun i => (i.size, i.bytes, i.zero)) = some (1, 8, some (.nilFunc)) := by kernel_rfl
theorem inf100 : (Try.prog.info? 100).map (fun i => (i.size, i.bytes, i.zero)) = some (1, 8, some (.nilFunc)) := by kernel_rfl
theorem inf101 : (Try.prog.info? 101).map (fun i => (i.size, i.bytes, i.zero)) = some (1, 8, some (.nilFunc)) := by kernel_rfl
theorem inf102 : (Try.prog.info? 102).map (fun i => (i.size, i.bytes, i.zero)) = some (1, 8, some (.nilFunc)) := by kernel_rfl
theorem inf103 : (Try.prog.info? 103).map (fun i => (i.size, i.bytes, i.zero)) = some (1, 8, some (.nilFunc)) := by kernel_rfl
theorem inf104 : (Try.prog.info? 104).map (fun i => (i.size, i.bytes, i.zero)) = some (1, 8, some (.map none)) := by kernel_rfl
theorem inf105 : (Try.prog.info? 105).map (fun i => (i.size, i.bytes, i.zero)) = some (1, 8, some (.nilFunc)) := by kernel_rfl
theorem inf106 : (Try.prog.info? 106).map (fun i => (i.size, i.bytes, i.zero)) = some (1, 8, some (.nilFunc)) := by kernel_rfl
theorem inf107 : (Try.prog.info? 107).map (fun i => (i.size, i.bytes, i.zero)) = some (1, 8, some (.nilFunc)) := by kernel_rfl
theorem inf108 : (Try.prog.info? 108).map (fun i => (i.size, i.bytes, i.zero)) = some (1, 8, some (.nilFunc)) := by kernel_rfl
theorem inf109 : (Try.prog.info? 109).map (fun i => (i.size, i.bytes, i.zero)) = some (1, 8, some (.nilFunc)) := by kernel_rfl
theorem inf110 : (Try.prog.info? 110).map (fun i => (i.size, i.bytes, i.zero)) = some (1, 8, some (.nilFunc)) := by kernel_rfl
theorem inf111 : (Try.prog.info? 111).map (fun i => (i.size, i.bytes, i.zero)) = some (1, 8, some (.nilFunc)) := by kernel_rfl
theorem inf112 : (Try.prog.info? 112).map (fun i => (i.size, i.bytes, i.zero)) = some (1, 8, some (.nilFunc)) := by kernel_rfl
theorem inf113 : (Try.prog.info? 113).map (fun i => (i.size, i.bytes, i.zero)) = some (1, 8, some (.nilFunc)) := by kernel_rfl
theorem inf114 : (Try.prog.info? 114).map (fun i => (i.size, i.bytes, i.zero)) = some (1, 8, some (.int .i64 0)) := by kernel_rfl
theorem inf116 : (Try.prog.info? 116).map (fun i => (i.size, i.bytes, i.zero)) = some (1, 8, some (.nilFunc)) := by kernel_rfl
theorem inf117 : (Try.prog.info? 117).map (fun i => (i.size, i.bytes, i.zero)) = some (1, 8, some (.nilFunc)) := by kernel_rfl
theorem inf118 : (Try.prog.info? 118).map (fun i => (i.size, i.bytes, i.zero)) = some (1, 8, some (.nilFunc)) := by kernel_rfl
theorem inf120 : (Try.prog.info? 120).map (fun i => (i.size, i.bytes, i.zero)) = some (1, 8, some (.nilFunc)) := by kernel_rfl
theorem inf121 : (Try.prog.info? 121).map (fun i => (i.size, i.bytes, i.zero)) = some (1, 8, some (.nilFunc)) := by kernel_rfl
theorem inf122 : (Try.prog.info? 122).map (fun i => (i.size, i.bytes, i.zero)) = some (1, 8, some (.nilFunc)) := by kernel_rfl
theorem inf124 : (Try.prog.info? 124).map (fun i => (i.size, i.bytes, i.zero)) = some (1, 8, some (.nilFunc)) := by kernel_rfl
theorem inf125 : (Try.prog.info? 125).map (fun i => (i.size, i.bytes, i.zero)) = some (1, 8, some (.nilFunc)) := by kernel_rfl
theorem inf126 : (Try.prog.info? 126).map (fun i => (i.size, i.bytes, i.zero)) = some (1, 8, some (.nilFunc)) := by kernel_rfl
theorem inf127 : (Try.prog.info? 127).map (fun i => (i.size, i.bytes, i.zero)) = some (1, 8, some (.pointer none)) := by kernel_rfl
theorem inf128 : (Try.prog.info? 128).map (fun i => (i.size, i.bytes, i.zero)) = some (1, 8, some (.nilFunc)) := by kernel_rfl
theorem inf130 : (Try.prog.info? 130).map (fun i => (i.size, i.bytes, i.zero)) = some (1, 8, some (.nilFunc)) := by kernel_rfl
theorem inf131 : (Try.prog.info? 131).map (fun i => (i.size, i.bytes, i.zero)) = some (1, 8, some (.nilFunc)) := by kernel_rfl
theorem inf137 : (Try.prog.info? 137).map (fun i => (i.size, i.bytes, i.zero)) = some (1, 8, some (.nilFunc)) := by kernel_rfl
theorem inf141 : (Try.prog.info? 141).map (fun i => (i.size, i.bytes, i.zero)) = some (1, 8, some (.pointer none)) := by kernel_rfl
theorem inf_of {t s b : Nat} {z : Value} (h : (Try.prog.info? t).map (fun i => (i.size, i.bytes, i.zero)) = some (s, b, some z)) : ∃ i, Try.prog.info? t = some i ∧ i.size = s ∧ i.bytes = b ∧ i.zero = some z := by
  obtain ⟨i, h1, h2⟩ := Option.map_eq_some_iff.1 h
  simp only [Prod.mk.injEq] at h2
  exact ⟨i, h1, h2.1, h2.2.1, h2.2.2⟩
theorem tabU_ok : ∀ t d, tabU t = some d → Try.prog.underlying t = some d := by
  intro t d h
  unfold tabU at h
  split at h
  · cases h; exact Try.underlying1
  · cases h; exact Try.underlying2
  · cases h; exact Try.underlying3
  · cases h; exact Try.underlying4
  · cases h; exact Try.underlying5
  · cases h; exact Try.underlying9
  · cases h; exact Try.underlying12
  · cases h; exact Try.underlying21
  · cases h; exact Try.underlying23
  · cases h; exact Try.underlying24
  · cases h; exact Try.underlying25
  · cases h; exact Try.underlying26
  · cases h; exact Try.underlying27
  · cases h; exact Try.underlying28
  · cases h; exact Try.underlying29
  · cases h; exact Try.underlying32
  · cases h; exact Try.underlying33
  · cases h; exact Try.underlying34
  · cases h; exact Try.underlying35
  · cases h; exact Try.underlying36
  · cases h; exact Try.underlying37
  · cases h; exact Try.underlying38
  · cases h; exact Try.underlying39
  · cases h; exact Try.underlying40
  · cases h; exact Try.underlying41
  · cases h; exact Try.underlying42
  · cases h; exact Try.underlying43
  · cases h; exact Try.underlying44
  · cases h; exact Try.underlying45
  · cases h; exact Try.underlying46
  · cases h; exact Try.underlying47
  · cases h; exact Try.underlying48
  · cases h; exact Try.underlying49
  · cases h; exact Try.underlying50
  · cases h; exact Try.underlying51
  · cases h; exact Try.underlying53
  · cases h; exact Try.underlying54
  · cases h; exact Try.underlying55
  · cases h; exact Try.underlying57
  · cases h; exact Try.underlying58
  · cases h; exact Try.underlying62
  · cases h; exact Try.underlying63
  · cases h; exact Try.underlying64
  · cases h; exact Try.underlying65
  · cases h; exact Try.underlying66
  · cases h; exact Try.underlying67
  · cases h; exact Try.underlying70
  · cases h; exact Try.underlying73
  · cases h; exact Try.underlying74
  · cases h; exact Try.underlying75
  · cases h; exact Try.underlying76
  · cases h; exact Try.underlying77
  · cases h; exact Try.underlying78
  · cases h; exact Try.underlying79
  · cases h; exact Try.underlying80
  · cases h; exact Try.underlying81
  · cases h; exact Try.underlying82
  · cases h; exact Try.underlying83
  · cases h; exact Try.underlying84
  · cases h; exact Try.underlying85
  · cases h; exact Try.underlying86
  · cases h; exact Try.underlying87
  · cases h; exact Try.underlying88
  · cases h; exact Try.underlying89
  · cases h; exact Try.underlying90
  · cases h; exact Try.underlying91
  · cases h; exact Try.underlying92
  · cases h; exact Try.underlying94
  · cases h; exact Try.underlying95
  · cases h; exact Try.underlying96
  · cases h; exact Try.underlying98
  · cases h; exact Try.underlying99
  · cases h; exact Try.underlying100
  · cases h; exact Try.underlying101
  · cases h; exact Try.underlying102
  · cases h; exact Try.underlying103
  · cases h; exact Try.underlying104
  · cases h; exact Try.underlying105
  · cases h; exact Try.underlying106
  · cases h; exact Try.underlying107
  · cases h; exact Try.underlying108
  · cases h; exact Try.underlying109
  · cases h; exact Try.underlying110
  · cases h; exact Try.underlying111
  · cases h; exact Try.underlying112
  · cases h; exact Try.underlying113
  · cases h; exact Try.underlying114
  · cases h; exact Try.underlying116
  · cases h; exact Try.underlying117
  · cases h; exact Try.underlying118
  · cases h; exact Try.underlying120
  · cases h; exact Try.underlying121
  · cases h; exact Try.underlying122
  · cases h; exact Try.underlying124
  · cases h; exact Try.underlying125
  · cases h; exact Try.underlying126
  · cases h; exact Try.underlying127
  · cases h; exact Try.underlying128
  · cases h; exact Try.underlying130
  · cases h; exact Try.underlying131
  · cases h; exact Try.underlying137
  · cases h; exact Try.underlying141
  · cases h
theorem tabI_ok : ∀ t s b z, tabI t = some (s, b, z) → ∃ i, Try.prog.info? t = some i ∧ i.size = s ∧ i.bytes = b ∧ i.zero = some z := by
  intro t s b z h
  unfold tabI at h
  split at h
  · cases h; exact inf_of inf1
  · cases h; exact inf_of inf2
  · cases h; exact inf_of inf3
  · cases h; exact inf_of inf4
  · cases h; exact inf_of inf5
  · cases h; exact inf_of inf9
  · cases h; exact inf_of inf12
  · cases h; exact inf_of inf20
  · cases h; exact inf_of inf21
  · cases h; exact inf_of inf23
  · cases h; exact inf_of inf24
  · cases h; exact inf_of inf25
  · cases h; exact inf_of inf26
  · cases h; exact inf_of inf27
  · cases h; exact inf_of inf28
  · cases h; exact inf_of inf29
  · cases h; exact inf_of inf30
  · cases h; exact inf_of inf31
  · cases h; exact inf_of inf32
  · cases h; exact inf_of inf33
  · cases h; exact inf_of inf34
  · cases h; exact inf_of inf35
  · cases h; exact inf_of inf36
  · cases h; exact inf_of inf37
  · cases h; exact inf_of inf38
  · cases h; exact inf_of inf39
  · cases h; exact inf_of inf40
  · cases h; exact inf_of inf41
  · cases h; exact inf_of inf42
  · cases h; exact inf_of inf43
  · cases h; exact inf_of inf44
  · cases h; exact inf_of inf45
  · cases h; exact inf_of inf46
  · cases h; exact inf_of inf47
  · cases h; exact inf_of inf48
  · cases h; exact inf_of inf49
  · cases h; exact inf_of inf50
  · cases h; exact inf_of inf51
  · cases h; exact inf_of inf53
  · cases h; exact inf_of inf54
  · cases h; exact inf_of inf55
  · cases h; exact inf_of inf57
  · cases h; exact inf_of inf58
  · cases h; exact inf_of inf59
  · cases h; exact inf_of inf60
  · cases h; exact inf_of inf62
  · cases h; exact inf_of inf63
  · cases h; exact inf_of inf64
  · cases h; exact inf_of inf65
  · cases h; exact inf_of inf66
  · cases h; exact inf_of inf67
  · cases h; exact inf_of inf68
  · cases h; exact inf_of inf69
  · cases h; exact inf_of inf70
  · cases h; exact inf_of inf71
  · cases h; exact inf_of inf72
  · cases h; exact inf_of inf73
  · cases h; exact inf_of inf74
  · cases h; exact inf_of inf75
  · cases h; exact inf_of inf76
  · cases h; exact inf_of inf77
  · cases h; exact inf_of inf78
  · cases h; exact inf_of inf79
  · cases h; exact inf_of inf80
  · cases h; exact inf_of inf81
  · cases h; exact inf_of inf82
  · cases h; exact inf_of inf83
  · cases h; exact inf_of inf84
  · cases h; exact inf_of inf85
  · cases h; exact inf_of inf86
  · cases h; exact inf_of inf87
  · cases h; exact inf_of inf88
  · cases h; exact inf_of inf89
  · cases h; exact inf_of inf90
  · cases h; exact inf_of inf91
  · cases h; exact inf_of inf92
  · cases h; exact inf_of inf94
  · cases h; exact inf_of inf95
  · cases h; exact inf_of inf96
  · cases h; exact inf_of inf98
  · cases h; exact inf_of inf99
  · cases h; exact inf_of inf100
  · cases h; exact inf_of inf101
  · cases h; exact inf_of inf102
  · cases h; exact inf_of inf103
  · cases h; exact inf_of inf104
  · cases h; exact inf_of inf105
  · cases h; exact inf_of inf106
  · cases h; exact inf_of inf107
  · cases h; exact inf_of inf108
  · cases h; exact inf_of inf109
  · cases h; exact inf_of inf110
  · cases h; exact inf_of inf111
  · cases h; exact inf_of inf112
  · cases h; exact inf_of inf113
  · cases h; exact inf_of inf114
  · cases h; exact inf_of inf116
  · cases h; exact inf_of inf117
  · cases h; exact inf_of inf118
  · cases h; exact inf_of inf120
  · cases h; exact inf_of inf121
  · cases h; exact inf_of inf122
  · cases h; exact inf_of inf124
  · cases h; exact inf_of inf125
  · cases h; exact inf_of inf126
  · cases h; exact inf_of inf127
  · cases h; exact inf_of inf128
  · cases h; exact inf_of inf130
  · cases h; exact inf_of inf131
  · cases h; exact inf_of inf137
  · cases h; exact inf_of inf141
  · cases h
theorem lay30 : ∃ fs, Try.prog.underlying 30 = some (.struct fs) ∧ fs.toList.mapM (fun f => (Try.prog.info? f.type).map fun i => (f.offset, i.size)) = some [(0, 1), (1, 1), (2, 1), (3, 1), (4, 1), (5, 1)] := ⟨_, Try.underlying30, by kernel_rfl⟩
theorem lay31 : ∃ fs, Try.prog.underlying 31 = some (.struct fs) ∧ fs.toList.mapM (fun f => (Try.prog.info? f.type).map fun i => (f.offset, i.size)) = some [(0, 1), (1, 1), (2, 1), (3, 1), (4, 1), (5, 1)] := ⟨_, Try.underlying31, by kernel_rfl⟩
theorem lay59 : ∃ fs, Try.prog.underlying 59 = some (.struct fs) ∧ fs.toList.mapM (fun f => (Try.prog.info? f.type).map fun i => (f.offset, i.size)) = some [(0, 6), (6, 1), (7, 1)] := ⟨_, Try.underlying59, by kernel_rfl⟩
theorem lay60 : ∃ fs, Try.prog.underlying 60 = some (.struct fs) ∧ fs.toList.mapM (fun f => (Try.prog.info? f.type).map fun i => (f.offset, i.size)) = some [(0, 6), (6, 1), (7, 1)] := ⟨_, Try.underlying60, by kernel_rfl⟩
theorem lay68 : ∃ fs, Try.prog.underlying 68 = some (.struct fs) ∧ fs.toList.mapM (fun f => (Try.prog.info? f.type).map fun i => (f.offset, i.size)) = some [(0, 1), (1, 1)] := ⟨_, Try.underlying68, by kernel_rfl⟩
theorem lay69 : ∃ fs, Try.prog.underlying 69 = some (.struct fs) ∧ fs.toList.mapM (fun f => (Try.prog.info? f.type).map fun i => (f.offset, i.size)) = some [(0, 1), (1, 1)] := ⟨_, Try.underlying69, by kernel_rfl⟩
theorem lay71 : ∃ fs, Try.prog.underlying 71 = some (.struct fs) ∧ fs.toList.mapM (fun f => (Try.prog.info? f.type).map fun i => (f.offset, i.size)) = some [(0, 1), (1, 1)] := ⟨_, Try.underlying71, by kernel_rfl⟩
theorem lay72 : ∃ fs, Try.prog.underlying 72 = some (.struct fs) ∧ fs.toList.mapM (fun f => (Try.prog.info? f.type).map fun i => (f.offset, i.size)) = some [(0, 1), (1, 1)] := ⟨_, Try.underlying72, by kernel_rfl⟩
theorem tabL_ok : ∀ t l, tabL t = some l → ∃ fs, Try.prog.underlying t = some (.struct fs) ∧ fs.toList.mapM (fun f => (Try.prog.info? f.type).map fun i => (f.offset, i.size)) = some l := by
  intro t l h
  unfold tabL at h
  split at h
  · cases h; exact lay30
  · cases h; exact lay31
  · cases h; exact lay59
  · cases h; exact lay60
  · cases h; exact lay68
  · cases h; exact lay69
  · cases h; exact lay71
  · cases h; exact lay72
  · cases h
theorem tabL_pos : ∀ t l, tabL t = some l → l.all (fun x => x.2 != 0) = true := by
  intro t l h
  unfold tabL at h
  split at h
  · cases h; rfl
  · cases h; rfl
  · cases h; rfl
  · cases h; rfl
  · cases h; rfl
  · cases h; rfl
  · cases h; rfl
  · cases h; rfl
  · cases h
theorem mapM_get {P : Program} : ∀ (fs : List Field) (l : List (Nat × Nat)), fs.mapM (fun f => (P.info? f.type).map fun i => (f.offset, i.size)) = some l → ∀ (j : Nat) (x : Nat × Nat), l[j]? = some x → ∃ fl i, fs[j]? = some fl ∧ P.info? fl.type = some i ∧ fl.offset = x.1 ∧ i.size = x.2
  | [], l, h, j, x, hx => by simp at h; subst h; simp at hx
  | f :: fs, l, h, j, x, hx => by
    simp only [List.mapM_cons, Option.bind_eq_bind, Option.pure_def] at h
    cases hi : P.info? f.type with
    | none => simp [hi] at h
    | some i =>
      cases hr : fs.mapM (fun f => (P.info? f.type).map fun i => (f.offset, i.size)) with
      | none => simp [hi, hr] at h
      | some rest =>
        simp [hi, hr] at h
        subst h
        cases j with
        | zero => simp at hx; subst hx; exact ⟨f, i, rfl, hi, rfl, rfl⟩
        | succ j => simpa using mapM_get fs rest hr j x (by simpa using hx)
theorem tabF_ok : ∀ t j o, tabF t j = some o → ∃ fs fl i, Try.prog.underlying t = some (.struct fs) ∧ fs[j]? = some fl ∧ fl.offset = o ∧ Try.prog.info? fl.type = some i ∧ i.size ≠ 0 := by
  intro t j o h
  unfold tabF at h
  obtain ⟨l, h1, h2⟩ := Option.bind_eq_some_iff.1 h
  obtain ⟨x, h3, rfl⟩ := Option.map_eq_some_iff.1 h2
  obtain ⟨fs, h4, h5⟩ := tabL_ok t l h1
  obtain ⟨fl, i, h6, h7, h8, h9⟩ := mapM_get fs.toList l h5 j x h3
  refine ⟨fs, fl, i, h4, by simpa using h6, h8, h7, ?_⟩
  have := List.all_eq_true.1 (tabL_pos t l h1) x (List.mem_of_getElem? h3)
  rw [h9]
  simpa using this
theorem eqCl (a b c d : Int) (w : World) : (Op.equalIn 10000 72 (.agg #[.int .u32 a, .int .u32 b]) (.agg #[.int .u32 c, .int .u32 d])).run Try.prog w = .ok (a == c && b == d) w := by
  have u := Try.underlying45
  have hS : Try.prog.underlying 72 = some (.struct (Try.prog.fieldsOf 72)) := by kernel_rfl
  have hp : Try.prog.stoodInHeld 72 = false := by kernel_rfl
  obtain ⟨i, h1, h2⟩ : ∃ i, Try.prog.info? 45 = some i ∧ i.size = 1 := by
    obtain ⟨i, h1, h2⟩ := Option.map_eq_some_iff.1 (show (Try.prog.info? 45).map (fun i => i.size) = some 1 by kernel_rfl)
    exact ⟨i, h1, h2⟩
  have hz : ∀ w, (sizeOf 45).run Try.prog w = .ok 1 w := fun w => by simp [sizeOf, typeInfo, h1, h2]
  rw [show (10000 : Nat) = 9999 + 1 from rfl, run_equalIn_agg w 9999 72 _ _ hS hp]
  simp only [Program.fieldsOf, Try.underlying72]
  have hA : ∀ w, (isAgg 45).run Try.prog w = .ok false w := fun w => by simp [isAgg, run_underlying u]
  have e : ∀ (a c : Int) (w : World), (Op.equalIn 9999 45 (.int .u32 a) (.int .u32 c)).run Try.prog w = .ok (a == c) w := fun a c w => run_equalIn_int w 9998 45 .u32 .u32 a c u
  simp [Op.eqFields, part, hA, hz, e]
  by_cases h1 : a = c <;> by_cases h2 : b = d <;> simp [h1, h2]
instance : Go.Hy.Tab Try.prog := ⟨tabU, tabU_ok, tabI, tabI_ok, tabF, tabF_ok, tabL, tabL_ok, by kernel_rfl, 72, eqCl, by kernel_rfl⟩
noncomputable def fC' : Array Field := match Try.prog.underlying 72 with | some (.struct fs) => fs | _ => #[]
noncomputable def fT' : Array Field := match Try.prog.underlying 31 with | some (.struct fs) => fs | _ => #[]
noncomputable def fB' : Array Field := match Try.prog.underlying 69 with | some (.struct fs) => fs | _ => #[]
noncomputable instance : Go.Hy.TyF Try.prog := { tI := 3, tS := 9, tU := 45, tC := 72, tT := 31, tB := 69, lC := 27, lT := 28, lB := 29, fC := fC', fT := fT', fB := fB', uI := Try.underlying3, uS := Try.underlying9, uU := Try.underlying45, uC := by kernel_rfl, uT := by kernel_rfl, uB := by kernel_rfl, ulC := Try.underlying27, ulT := Try.underlying28, ulB := Try.underlying29, pC := by kernel_rfl, pT := by kernel_rfl, pB := by kernel_rfl, c1 := ⟨by kernel_rfl, by kernel_rfl, by kernel_rfl, by kernel_rfl, by kernel_rfl, by kernel_rfl⟩, c2 := ⟨by kernel_rfl, by kernel_rfl, by kernel_rfl⟩, b2 := ⟨by kernel_rfl, by kernel_rfl, by kernel_rfl⟩ }
theorem laid' : laidOutB Try.prog = true := by kernel_rfl
noncomputable instance : Go.Hy.TabM Try.prog := { law := deep_law_laid laid' (m := 3) (by omega) (of_decide_eq_true (by kernel_rfl)) (by kernel_rfl) (by kernel_rfl), kt := by kernel_rfl, names := by kernel_rfl, npos := of_decide_eq_true (by kernel_rfl) }
end Go.Proofs.Ytcofpfnnlageaaa.Hy
namespace Go.Hy
set_option linter.unusedVariables false
set_option linter.unusedSimpArgs false
set_option linter.unusedSectionVars false
open Go.Proofs
set_option linter.unusedVariables false
set_option linter.unusedSimpArgs false
set_option maxRecDepth 100000
/-- What a kid binds. -/
theorem binds_spec (k i : Int) : Spec Try.prog 11 #[.int .i64 k, .int .i64 i] [] [] (fun _ : Unit => .tuple #[.int .i64 (binds k i).1, .int .i64 (binds k i).2]) (fun _ => []) (fun _ => []) := by
  refine spec_go (args := [.int .i64 k, .int .i64 i]) Try.func11 Try.ntmps11 rfl (by exact Nat.le_of_ble_eq_true rfl) fun B hB => ?_
  refine go_seq ?_
  refine go_region ⟨_, Try.func11⟩ rfl ?_
  refine q0 rfl (o_assign ?_)
  refine q0 rfl (o_assign ?_)
  refine rg_nil ?_
  refine go_seq ?_
  refine go_seq ?_
  refine go_region ⟨_, Try.func11⟩ rfl ?_
  refine q0 rfl (o_move ?_)
  refine rg_nil ?_
  refine go_block ?_
  refine go_seq ?_
  refine go_block ?_
  refine go_seq ?_
  refine go_block ?_
  refine go_block ?_
  refine go_block ?_
  refine go_seq ?_
  refine go_block ?_
  refine go_seq ?_
  refine go_seq ?_
  refine go_seq ?_
  refine go_seq ?_
  refine go_region ⟨_, Try.func11⟩ rfl ?_
  refine q0 rfl (o_eqI ?_)
  refine q0 rfl (o_assign ?_)
  refine rg_nil ?_
  refine go_condI (fun h7 => ?_) (fun h7 => ?_)
  · refine go_skip ?_
    refine go_condT ?_
    refine go_exit rfl ?_
    refine go_seq ?_
    refine go_seq ?_
    refine go_region ⟨_, Try.func11⟩ rfl ?_
    refine q0 rfl (o_move ?_)
    refine q0 rfl (o_eqI ?_)
    refine rg_nil ?_
    refine go_condI (fun h21 => ?_) (fun h21 => ?_)
    · refine go_seq ?_
      refine go_region ⟨_, Try.func11⟩ rfl ?_
      refine q0 rfl (o_assign ?_)
      refine q0 rfl (o_assign ?_)
      refine rg_nil ?_
      refine ret2 Try.func11 Try.results11 (by first | ((conv => lhs; whnf); done) | rfl) (by first | ((conv => lhs; whnf); done) | rfl) () (by simp_all [binds]) (fun w hs => hs.none)
    · refine go_skip ?_
      refine go_exit rfl ?_
      refine go_seq ?_
      refine go_region ⟨_, Try.func11⟩ rfl ?_
      refine q0 rfl (o_assign ?_)
      refine q0 rfl (o_assign ?_)
      refine rg_nil ?_
      refine ret2 Try.func11 Try.results11 (by first | ((conv => lhs; whnf); done) | rfl) (by first | ((conv => lhs; whnf); done) | rfl) () (by simp_all [binds]) (fun w hs => hs.none)
  · refine go_region ⟨_, Try.func11⟩ rfl ?_
    refine q0 rfl (o_eqI ?_)
    refine q0 rfl (o_assign ?_)
    refine rg_nil ?_
    refine go_condI (fun h7 => ?_) (fun h7 => ?_)
    · refine go_exit rfl ?_
      refine go_seq ?_
      refine go_seq ?_
      refine go_region ⟨_, Try.func11⟩ rfl ?_
      refine q0 rfl (o_move ?_)
      refine q0 rfl (o_eqI ?_)
      refine rg_nil ?_
      refine go_condI (fun h21 => ?_) (fun h21 => ?_)
      · refine go_seq ?_
        refine go_region ⟨_, Try.func11⟩ rfl ?_
        refine q0 rfl (o_assign ?_)
        refine q0 rfl (o_assign ?_)
        refine rg_nil ?_
        refine ret2 Try.func11 Try.results11 (by first | ((conv => lhs; whnf); done) | rfl) (by first | ((conv => lhs; whnf); done) | rfl) () (by simp_all [binds]) (fun w hs => hs.none)
      · refine go_skip ?_
        refine go_exit rfl ?_
        refine go_seq ?_
        refine go_region ⟨_, Try.func11⟩ rfl ?_
        refine q0 rfl (o_assign ?_)
        refine q0 rfl (o_assign ?_)
        refine rg_nil ?_
        refine ret2 Try.func11 Try.results11 (by first | ((conv => lhs; whnf); done) | rfl) (by first | ((conv => lhs; whnf); done) | rfl) () (by simp_all [binds]) (fun w hs => hs.none)
    · refine go_skip ?_
      refine go_seq ?_
      refine go_seq ?_
      refine go_region ⟨_, Try.func11⟩ rfl ?_
      refine q0 rfl (o_eqI ?_)
      refine q0 rfl (o_assign ?_)
      refine rg_nil ?_
      refine go_condI (fun h10 => ?_) (fun h10 => ?_)
      · refine go_exit rfl ?_
        refine go_inBlock ?_
        refine go_inBlock ?_
        refine go_seq ?_
        refine go_seq ?_
        refine go_region ⟨_, Try.func11⟩ rfl ?_
        refine q0 rfl (o_move ?_)
        refine q0 rfl (o_eqI ?_)
        refine rg_nil ?_
        refine go_condI (fun h23 => ?_) (fun h23 => ?_)
        · refine go_seq ?_
          refine go_region ⟨_, Try.func11⟩ rfl ?_
          refine q0 rfl (o_assign ?_)
          refine q0 rfl (o_assign ?_)
          refine rg_nil ?_
          refine ret2 Try.func11 Try.results11 (by first | ((conv => lhs; whnf); done) | rfl) (by first | ((conv => lhs; whnf); done) | rfl) () (by simp_all [binds]) (fun w hs => hs.none)
        · refine go_skip ?_
          refine go_exit rfl ?_
          refine go_seq ?_
          refine go_region ⟨_, Try.func11⟩ rfl ?_
          refine q0 rfl (o_assign ?_)
          refine q0 rfl (o_assign ?_)
          refine rg_nil ?_
          refine ret2 Try.func11 Try.results11 (by first | ((conv => lhs; whnf); done) | rfl) (by first | ((conv => lhs; whnf); done) | rfl) () (by simp_all [binds]) (fun w hs => hs.none)
      · refine go_skip ?_
        refine go_seq ?_
        refine go_seq ?_
        refine go_region ⟨_, Try.func11⟩ rfl ?_
        refine q0 rfl (o_eqI ?_)
        refine q0 rfl (o_assign ?_)
        refine rg_nil ?_
        refine go_condI (fun h12 => ?_) (fun h12 => ?_)
        · refine go_exit rfl ?_
          refine go_inBlock ?_
          refine go_seq ?_
          refine go_seq ?_
          refine go_region ⟨_, Try.func11⟩ rfl ?_
          refine q0 rfl (o_move ?_)
          refine q0 rfl (o_eqI ?_)
          refine rg_nil ?_
          refine go_condI (fun h23 => ?_) (fun h23 => ?_)
          · refine go_seq ?_
            refine go_region ⟨_, Try.func11⟩ rfl ?_
            refine q0 rfl (o_assign ?_)
            refine q0 rfl (o_assign ?_)
            refine rg_nil ?_
            refine ret2 Try.func11 Try.results11 (by first | ((conv => lhs; whnf); done) | rfl) (by first | ((conv => lhs; whnf); done) | rfl) () (by simp_all [binds]) (fun w hs => hs.none)
          · refine go_skip ?_
            refine go_exit rfl ?_
            refine go_seq ?_
            refine go_region ⟨_, Try.func11⟩ rfl ?_
            refine q0 rfl (o_assign ?_)
            refine q0 rfl (o_assign ?_)
            refine rg_nil ?_
            refine ret2 Try.func11 Try.results11 (by first | ((conv => lhs; whnf); done) | rfl) (by first | ((conv => lhs; whnf); done) | rfl) () (by simp_all [binds]) (fun w hs => hs.none)
        · refine go_skip ?_
          refine go_seq ?_
          refine go_seq ?_
          refine go_region ⟨_, Try.func11⟩ rfl ?_
          refine q0 rfl (o_eqI ?_)
          refine q0 rfl (o_assign ?_)
          refine rg_nil ?_
          refine go_condI (fun h14 => ?_) (fun h14 => ?_)
          · refine go_exit rfl ?_
            refine go_seq ?_
            refine go_seq ?_
            refine go_region ⟨_, Try.func11⟩ rfl ?_
            refine q0 rfl (o_move ?_)
            refine q0 rfl (o_eqI ?_)
            refine rg_nil ?_
            refine go_condI (fun h23 => ?_) (fun h23 => ?_)
            · refine go_seq ?_
              refine go_region ⟨_, Try.func11⟩ rfl ?_
              refine q0 rfl (o_assign ?_)
              refine q0 rfl (o_assign ?_)
              refine rg_nil ?_
              refine ret2 Try.func11 Try.results11 (by first | ((conv => lhs; whnf); done) | rfl) (by first | ((conv => lhs; whnf); done) | rfl) () (by simp_all [binds]) (fun w hs => hs.none)
            · refine go_skip ?_
              refine go_exit rfl ?_
              refine go_seq ?_
              refine go_region ⟨_, Try.func11⟩ rfl ?_
              refine q0 rfl (o_assign ?_)
              refine q0 rfl (o_assign ?_)
              refine rg_nil ?_
              refine ret2 Try.func11 Try.results11 (by first | ((conv => lhs; whnf); done) | rfl) (by first | ((conv => lhs; whnf); done) | rfl) () (by simp_all [binds]) (fun w hs => hs.none)
          · refine go_skip ?_
            refine go_seq ?_
            refine go_seq ?_
            refine go_region ⟨_, Try.func11⟩ rfl ?_
            refine q0 rfl (o_eqI ?_)
            refine q0 rfl (o_assign ?_)
            refine rg_nil ?_
            refine go_condI (fun h16 => ?_) (fun h16 => ?_)
            · refine go_skip ?_
              refine go_condT ?_
              refine go_exit rfl ?_
              refine go_seq ?_
              refine go_seq ?_
              refine go_region ⟨_, Try.func11⟩ rfl ?_
              refine q0 rfl (o_move ?_)
              refine q0 rfl (o_eqI ?_)
              refine rg_nil ?_
              refine go_condI (fun h25 => ?_) (fun h25 => ?_)
              · refine go_seq ?_
                refine go_region ⟨_, Try.func11⟩ rfl ?_
                refine q0 rfl (o_assign ?_)
                refine q0 rfl (o_assign ?_)
                refine rg_nil ?_
                refine ret2 Try.func11 Try.results11 (by first | ((conv => lhs; whnf); done) | rfl) (by first | ((conv => lhs; whnf); done) | rfl) () (by simp_all [binds]) (fun w hs => hs.none)
              · refine go_skip ?_
                refine go_exit rfl ?_
                refine go_seq ?_
                refine go_region ⟨_, Try.func11⟩ rfl ?_
                refine q0 rfl (o_assign ?_)
                refine q0 rfl (o_assign ?_)
                refine rg_nil ?_
                refine ret2 Try.func11 Try.results11 (by first | ((conv => lhs; whnf); done) | rfl) (by first | ((conv => lhs; whnf); done) | rfl) () (by simp_all [binds]) (fun w hs => hs.none)
            · refine go_seq ?_
              refine go_region ⟨_, Try.func11⟩ rfl ?_
              refine q0 rfl (o_eqI ?_)
              refine q0 rfl (o_assign ?_)
              refine rg_nil ?_
              refine go_condI (fun h16 => ?_) (fun h16 => ?_)
              · refine go_skip ?_
                refine go_condT ?_
                refine go_exit rfl ?_
                refine go_seq ?_
                refine go_seq ?_
                refine go_region ⟨_, Try.func11⟩ rfl ?_
                refine q0 rfl (o_move ?_)
                refine q0 rfl (o_eqI ?_)
                refine rg_nil ?_
                refine go_condI (fun h25 => ?_) (fun h25 => ?_)
                · refine go_seq ?_
                  refine go_region ⟨_, Try.func11⟩ rfl ?_
                  refine q0 rfl (o_assign ?_)
                  refine q0 rfl (o_assign ?_)
                  refine rg_nil ?_
                  refine ret2 Try.func11 Try.results11 (by first | ((conv => lhs; whnf); done) | rfl) (by first | ((conv => lhs; whnf); done) | rfl) () (by simp_all [binds]) (fun w hs => hs.none)
                · refine go_skip ?_
                  refine go_exit rfl ?_
                  refine go_seq ?_
                  refine go_region ⟨_, Try.func11⟩ rfl ?_
                  refine q0 rfl (o_assign ?_)
                  refine q0 rfl (o_assign ?_)
                  refine rg_nil ?_
                  refine ret2 Try.func11 Try.results11 (by first | ((conv => lhs; whnf); done) | rfl) (by first | ((conv => lhs; whnf); done) | rfl) () (by simp_all [binds]) (fun w hs => hs.none)
              · refine go_region ⟨_, Try.func11⟩ rfl ?_
                refine q0 rfl (o_eqI ?_)
                refine q0 rfl (o_assign ?_)
                refine rg_nil ?_
                refine go_condI (fun h16 => ?_) (fun h16 => ?_)
                · refine go_exit rfl ?_
                  refine go_seq ?_
                  refine go_seq ?_
                  refine go_region ⟨_, Try.func11⟩ rfl ?_
                  refine q0 rfl (o_move ?_)
                  refine q0 rfl (o_eqI ?_)
                  refine rg_nil ?_
                  refine go_condI (fun h25 => ?_) (fun h25 => ?_)
                  · refine go_seq ?_
                    refine go_region ⟨_, Try.func11⟩ rfl ?_
                    refine q0 rfl (o_assign ?_)
                    refine q0 rfl (o_assign ?_)
                    refine rg_nil ?_
                    refine ret2 Try.func11 Try.results11 (by first | ((conv => lhs; whnf); done) | rfl) (by first | ((conv => lhs; whnf); done) | rfl) () (by simp_all [binds]) (fun w hs => hs.none)
                  · refine go_skip ?_
                    refine go_exit rfl ?_
                    refine go_seq ?_
                    refine go_region ⟨_, Try.func11⟩ rfl ?_
                    refine q0 rfl (o_assign ?_)
                    refine q0 rfl (o_assign ?_)
                    refine rg_nil ?_
                    refine ret2 Try.func11 Try.results11 (by first | ((conv => lhs; whnf); done) | rfl) (by first | ((conv => lhs; whnf); done) | rfl) () (by simp_all [binds]) (fun w hs => hs.none)
                · refine go_skip ?_
                  refine go_exit rfl ?_
                  refine go_seq ?_
                  refine go_region ⟨_, Try.func11⟩ rfl ?_
                  refine q0 rfl (o_assign ?_)
                  refine q0 rfl (o_assign ?_)
                  refine rg_nil ?_
                  refine ret2 Try.func11 Try.results11 (by first | ((conv => lhs; whnf); done) | rfl) (by first | ((conv => lhs; whnf); done) | rfl) () (by simp_all [binds]) (fun w hs => hs.none)
theorem each_spec (t : T) (vr vk vs : SH) (c : FuncId) (cap : List Value) (FΓ : List Fact) (SM SF : Nat → List Res) (β : Nat → Bool)
    (hc : ∀ (args : Array Value) (w : World), (callFunc c args).run Try.prog w = .ok (.enter c args) w)
    (hcl : ∀ m k v d, (parts t)[m]? = some (k, v, d) → (∀ j, j < m → β j = true) → ∀ vr vk vs, Spec Try.prog c (.agg (tc k vr vk vs).toArray :: .int .i64 v :: .int .i64 d :: cap).toArray (RT k vr vk vs :: FΓ) (SM m) (fun _ : Unit => .bool (β m)) (fun _ => []) (fun _ => if β m then SM (m + 1) else SF m)) :
    Spec Try.prog 45 #[.agg (tc t vr vk vs).toArray, .func (.func c) #[] cap.toArray] (RT t vr vk vs :: FΓ) (SM 0) (fun _ : Unit => .bool (ff β (parts t).length == (parts t).length)) (fun _ => []) (fun _ => if ff β (parts t).length = (parts t).length then SM (parts t).length else SF (ff β (parts t).length)) := by
  refine spec_go (args := [.agg (tc t vr vk vs).toArray, .func (.func c) #[] cap.toArray]) Try.func45 Try.ntmps45 rfl (by exact Nat.le_of_ble_eq_true rfl) fun B hB => ?_
  refine go_open (fun hk hn hnm => ?_)
  refine go_openTL (ts := t.kids) (fun VR VK VS hl1 hA1 => ?_)
  refine go_openBL (bs := t.sys) (fun VF VK2 hl2 hA2 => ?_)
  have hpl := parts_length t
  refine go_seq ?_
  refine go_region ⟨_, Try.func45⟩ rfl ?_
  refine q0 rfl (o_box fun b2 => ?_)
  refine q0 rfl (o_assign ?_)
  refine rg_nil ?_
  refine go_seq ?_
  refine go_seq ?_
  refine go_region ⟨_, Try.func45⟩ rfl ?_
  refine q0 rfl (o_fa ?_)
  refine q0 rfl (o_ld ?_)
  refine q0 rfl (o_len ?_)
  refine q0 rfl (o_move ?_)
  refine rg_nil ?_
  refine go_block ?_
  refine go_loopI (X := Nat) (fun i => i ≤ t.kids.length ∧ ∀ j, j < i → β j = true) (fun i => [(1, .func (.func c) #[] cap.toArray), (2, .pointer (some ⟨b2, 0, none⟩)), (15, sl vk t.kids.length), (16, .int .i64 (t.kids.length : Int)), (17, .int .i64 (i : Int))]) (fun i => TLx t.kids vk VR VK VS :: BLx t.sys vs VF VK2 :: RT t vr vk vs :: FΓ) (fun i => boxR b2 (tc t vr vk vs) 31 :: SM i) (fun i => t.kids.length - i) (0) (⟨Nat.zero_le _, fun j hj => by omega⟩) (by exact ⟨rfl, rfl, rfl, rfl, rfl, trivial⟩) ?_ ?_
  · exact fun w hs => hs.less (by simp +contextual)
  · intro i base0 ⟨hi, hβ⟩ next0
    refine go_seq ?_
    refine go_region ⟨_, Try.func45⟩ rfl ?_
    refine q0 rfl (o_lss ?_)
    refine rg_nil ?_
    refine go_seq ?_
    refine go_condI (fun h18 => ?_) (fun h18 => ?_)
    · have hlt : i < t.kids.length := by have := of_decide_eq_true h18; omega
      obtain ⟨bk, o, hav⟩ := hA1 (by omega)
      refine go_skip ?_
      refine go_seq ?_
      refine go_block ?_
      refine go_seq ?_
      refine go_region ⟨_, Try.func45⟩ rfl ?_
      refine q0 rfl (o_move ?_)
      refine q0 rfl (o_ixN ?_)
      refine q0 rfl (o_ldT ?_)
      refine q0 rfl (o_new fun b6 => ?_)
      refine q0 rfl (o_assign ?_)
      refine q0 rfl (o_st ?_)
      refine rg_nil ?_
      refine go_seq ?_
      refine go_kid i hlt ?_
      refine go_region ⟨_, Try.func45⟩ rfl ?_
      have hpk := parts_kid t i hlt
      refine q0 rfl (o_fa ?_)
      refine q0 rfl (o_ld ?_)
      refine q0 rfl (o_move ?_)
      refine q0 rfl (o_call Try.call11 (binds_spec t.kind i) (fun x26 => ?_))
      refine q0 rfl (o_move ?_)
      refine q0 rfl (o_extract ?_)
      refine q0 rfl (o_extract ?_)
      refine q0 rfl (o_assign ?_)
      refine q0 rfl (o_assign ?_)
      refine rg_nil ?_
      refine go_seq ?_
      refine go_region ⟨_, Try.func45⟩ rfl ?_
      refine q0 rfl (o_move ?_)
      refine q0 rfl (o_lds ?_)
      refine q0 rfl (o_move ?_)
      refine q0 rfl (o_move ?_)
      refine q0 rfl (o_callC hc (hcl i _ _ _ hpk hβ _ _ _) (fun x33 => ?_))
      refine q0 rfl (o_not ?_)
      refine rg_nil ?_
      refine go_condI (fun h34 => ?_) (fun h34 => ?_)
      · have hβf : β i = false := by simpa using h34
        refine go_seq ?_
        refine go_region ⟨_, Try.func45⟩ rfl ?_
        refine q0 rfl (o_assign ?_)
        refine rg_nil ?_
        have hff := ff_stop hβf hβ (n := (parts t).length) (by omega)
        refine ret1 Try.func45 Try.results45 (by first | ((conv => lhs; whnf); done) | rfl) () (by simp [hff]; omega) (fun w hs => by rw [hff, if_neg (by omega)]; simp only [hβf, Bool.false_eq_true, if_false] at hs; exact (hs.less (by simp)).dropR)
      · refine go_skip ?_
        refine go_inBlock ?_
        refine go_region ⟨_, Try.func45⟩ rfl ?_
        refine q0 rfl (o_add ?_)
        refine q0 rfl (o_move ?_)
        refine rg_nil ?_
        have hβt : β i = true := by simpa using h34
        refine go_state (fun w hs => ?_) (next0 (i + 1) _ ⟨hlt, fun j hj => (by rcases Nat.lt_succ_iff_lt_or_eq.mp hj with h | h; exact hβ j h; subst h; exact hβt)⟩ (by omega) ⟨rfl, rfl, rfl, rfl, rfl, trivial⟩)
        simp only [hβt, if_true] at hs
        exact ((hs.less (by simp +contextual)).perm List.perm_append_comm).drop
    · have hge : i = t.kids.length := by have := of_decide_eq_false h18; omega
      refine go_exit rfl ?_
      refine go_seq ?_
      refine go_region ⟨_, Try.func45⟩ rfl ?_
      refine q0 rfl (o_assign ?_)
      refine rg_nil ?_
      refine go_seq ?_
      refine go_seq ?_
      refine go_region ⟨_, Try.func45⟩ rfl ?_
      refine q0 rfl (o_fa ?_)
      refine q0 rfl (o_ld ?_)
      refine q0 rfl (o_eqI ?_)
      refine rg_nil ?_
      refine go_cutS ([(1, .func (.func c) #[] cap.toArray), (2, .pointer (some ⟨b2, 0, none⟩)), (9, .int .i64 (more t.kind))]) (fun hK => ?_) (fun base => ?_)
      · refine go_condI (fun h38 => ?_) (fun h38 => ?_)
        · refine go_region ⟨_, Try.func45⟩ rfl ?_
          refine q0 rfl (o_assign ?_)
          refine rg_nil ?_
          exact hK _ ⟨rfl, rfl, by first | (rw [more, if_pos (of_decide_eq_true h38)]; rfl) | (rw [more, if_neg (of_decide_eq_false h38)]; rfl), trivial⟩
        · refine go_skip ?_
          exact hK _ ⟨rfl, rfl, by first | (rw [more, if_pos (of_decide_eq_true h38)]; rfl) | (rw [more, if_neg (of_decide_eq_false h38)]; rfl), trivial⟩
      · refine go_seq ?_
        refine go_seq ?_
        refine go_region ⟨_, Try.func45⟩ rfl ?_
        refine q0 rfl (o_fa ?_)
        refine q0 rfl (o_ld ?_)
        refine q0 rfl (o_len ?_)
        refine q0 rfl (o_move ?_)
        refine rg_nil ?_
        refine go_block ?_
        refine go_loopI (X := Nat) (fun i2 => i2 ≤ t.sys.length ∧ ∀ j, j < t.kids.length + sysBefore i2 t.sys → β j = true) (fun i2 => [(1, .func (.func c) #[] cap.toArray), (9, .int .i64 (more t.kind)), (40, sl vs t.sys.length), (41, .int .i64 (t.sys.length : Int)), (42, .int .i64 (i2 : Int))]) (fun i2 => BLx t.sys vs VF VK2 :: FΓ) (fun i2 => SM (t.kids.length + sysBefore i2 t.sys)) (fun i2 => t.sys.length - i2) (0) (⟨Nat.zero_le _, fun j hj => hβ j (by simp [sysBefore] at hj; omega)⟩) (by exact ⟨rfl, rfl, rfl, rfl, rfl, trivial⟩) ?_ ?_
        · exact fun w hs => (by simpa [sysBefore, show i = t.kids.length by omega] using (hs.drop.less (Γ' := BLx t.sys vs VF VK2 :: FΓ) (by simp +contextual)))
        · intro i2 base1 ⟨hi2, hβ2⟩ next1
          refine go_seq ?_
          refine go_region ⟨_, Try.func45⟩ rfl ?_
          refine q0 rfl (o_lss ?_)
          refine rg_nil ?_
          refine go_seq ?_
          refine go_condI (fun h43 => ?_) (fun h43 => ?_)
          · have hlt2 : i2 < t.sys.length := by have := of_decide_eq_true h43; omega
            obtain ⟨bk2, o2, hav2⟩ := hA2 (by omega)
            refine go_skip ?_
            refine go_seq ?_
            refine go_block ?_
            refine go_seq ?_
            refine go_region ⟨_, Try.func45⟩ rfl ?_
            refine q0 rfl (o_ixN ?_)
            refine q0 rfl (o_ldB ?_)
            refine q0 rfl (o_new fun b11 => ?_)
            refine q0 rfl (o_st ?_)
            refine rg_nil ?_
            refine go_seq ?_
            refine go_region ⟨_, Try.func45⟩ rfl ?_
            refine q0 rfl (o_fa ?_)
            refine q0 rfl (o_ld ?_)
            refine q0 rfl (o_len ?_)
            refine q0 rfl (o_move ?_)
            refine rg_nil ?_
            refine go_block ?_
            refine go_branch i2 (by omega) ?_
            refine go_openTL (ts := (t.sys.getD i2 br0).kids) (fun VR3 VK3 VS3 hl3 hA3 => ?_)
            refine go_loopI (X := Nat) (fun j => j ≤ (t.sys.getD i2 br0).kids.length ∧ ∀ m, m < t.kids.length + sysBefore i2 t.sys + j → β m = true) (fun j => [(1, .func (.func c) #[] cap.toArray), (9, .int .i64 (more t.kind)), (40, sl vs t.sys.length), (41, .int .i64 (t.sys.length : Int)), (42, .int .i64 ((i2 : Nat) : Int)), (47, sl (VK2 i2) (t.sys.getD i2 br0).kids.length), (48, .int .i64 ((t.sys.getD i2 br0).kids.length : Int)), (49, .int .i64 (j : Int))]) (fun j => TLx (t.sys.getD i2 br0).kids (VK2 i2) VR3 VK3 VS3 :: BLx t.sys vs VF VK2 :: FΓ) (fun j => SM (t.kids.length + sysBefore i2 t.sys + j)) (fun j => (t.sys.getD i2 br0).kids.length - j) (0) (⟨Nat.zero_le _, hβ2⟩) (by exact ⟨rfl, rfl, rfl, rfl, rfl, rfl, rfl, rfl, trivial⟩) ?_ ?_
            · exact fun w hs => (hs.less (by simp +contextual)).drop
            · intro j base2 ⟨hj, hβ3⟩ next2
              refine go_seq ?_
              refine go_region ⟨_, Try.func45⟩ rfl ?_
              refine q0 rfl (o_lss ?_)
              refine rg_nil ?_
              refine go_seq ?_
              refine go_condI (fun h50 => ?_) (fun h50 => ?_)
              · have hlt3 : j < (t.sys.getD i2 br0).kids.length := by have := of_decide_eq_true h50; omega
                obtain ⟨bk3, o3, hav3⟩ := hA3 (by omega)
                have hps := parts_sys t i2 j hlt2 hlt3
                refine go_kid j hlt3 ?_
                refine go_skip ?_
                refine go_seq ?_
                refine go_block ?_
                refine go_seq ?_
                refine go_region ⟨_, Try.func45⟩ rfl ?_
                refine q0 rfl (o_ixN ?_)
                refine q0 rfl (o_ldT ?_)
                refine q0 rfl (o_new fun b13 => ?_)
                refine q0 rfl (o_st ?_)
                refine rg_nil ?_
                refine go_seq ?_
                refine go_region ⟨_, Try.func45⟩ rfl ?_
                refine q0 rfl (o_move ?_)
                refine q0 rfl (o_lds ?_)
                refine q0 rfl (o_move ?_)
                refine q0 rfl (o_callC hc (hcl _ _ _ _ hps hβ3 _ _ _) (fun x56 => ?_))
                refine q0 rfl (o_not ?_)
                refine rg_nil ?_
                refine go_condI (fun h57 => ?_) (fun h57 => ?_)
                · have hβf : β (t.kids.length + sysBefore i2 t.sys + j) = false := by simpa using h57
                  refine go_seq ?_
                  refine go_region ⟨_, Try.func45⟩ rfl ?_
                  refine q0 rfl (o_assign ?_)
                  refine rg_nil ?_
                  have hbd := sysBefore_le hlt2 hlt3
                  have hff := ff_stop hβf hβ3 (n := (parts t).length) (by omega)
                  refine ret1 Try.func45 Try.results45 (by first | ((conv => lhs; whnf); done) | rfl) () (by simp [hff]; omega) (fun w hs => by rw [hff, if_neg (by omega)]; simp only [hβf, Bool.false_eq_true, if_false] at hs; exact (hs.less (by simp)).dropR)
                · refine go_skip ?_
                  refine go_inBlock ?_
                  refine go_region ⟨_, Try.func45⟩ rfl ?_
                  refine q0 rfl (o_add ?_)
                  refine q0 rfl (o_move ?_)
                  refine rg_nil ?_
                  have hβt : β (t.kids.length + sysBefore i2 t.sys + j) = true := by simpa using h57
                  refine go_state (fun w hs => ?_) (next2 (j + 1) _ ⟨hlt3, fun j2 hj2 => (by rcases Nat.lt_succ_iff_lt_or_eq.mp hj2 with h | h; exact hβ3 j2 h; subst h; exact hβt)⟩ (by omega) ⟨rfl, rfl, rfl, rfl, rfl, rfl, rfl, rfl, trivial⟩)
                  simp only [hβt, if_true] at hs
                  exact (hs.less (by simp +contextual)).dropR
              · have hge3 : j = (t.sys.getD i2 br0).kids.length := by have := of_decide_eq_false h50; omega
                refine go_exit rfl ?_
                refine go_inBlock ?_
                refine go_region ⟨_, Try.func45⟩ rfl ?_
                refine q0 rfl (o_add ?_)
                refine q0 rfl (o_move ?_)
                refine rg_nil ?_
                refine go_state (fun w hs => ?_) (next1 (i2 + 1) _ ⟨hlt2, by rw [sysBefore_succ i2 t.sys hlt2]; rw [hge3] at hβ3; simpa [Nat.add_assoc] using hβ3⟩ (by omega) ⟨rfl, rfl, rfl, rfl, rfl, trivial⟩)
                rw [hge3] at hs
                simp only [sysBefore_succ i2 t.sys hlt2, ← Nat.add_assoc]
                exact hs.less (by simp +contextual)
          · refine go_exit rfl ?_
            refine go_seq ?_
            refine go_region ⟨_, Try.func45⟩ rfl ?_
            refine q0 rfl (o_assign ?_)
            refine rg_nil ?_
            have hie : i2 = t.sys.length := by have := of_decide_eq_false h43; omega
            have hff := ff_all (β := β) (n := (parts t).length) (by rw [hpl, ← hie]; exact hβ2)
            refine ret1 Try.func45 Try.results45 (by first | ((conv => lhs; whnf); done) | rfl) () (by simp [hff]) (fun w hs => by rw [hff, if_pos rfl, hpl, ← hie]; exact hs.less (by simp))
end Go.Hy
namespace Go.Hy
set_option linter.unusedVariables false
set_option linter.unusedSimpArgs false
set_option linter.unusedSectionVars false
open Go.Proofs
set_option linter.unusedVariables false
set_option linter.unusedSimpArgs false
set_option maxRecDepth 100000
theorem kids_spec (k : Int) : Spec Try.prog 13 #[.int .i64 k] [] [] (fun _ : Unit => .int .i64 (kidsN k)) (fun _ => []) (fun _ => []) := by
  refine spec_go (args := [.int .i64 k]) Try.func13 Try.ntmps13 rfl (by exact Nat.le_of_ble_eq_true rfl) fun B hB => ?_
  refine go_seq ?_
  refine go_region ⟨_, Try.func13⟩ rfl ?_
  refine q0 rfl (o_assign ?_)
  refine rg_nil ?_
  refine go_seq ?_
  refine go_seq ?_
  refine go_region ⟨_, Try.func13⟩ rfl ?_
  refine q0 rfl (o_move ?_)
  refine rg_nil ?_
  refine go_block ?_
  refine go_seq ?_
  refine go_seq ?_
  refine go_region ⟨_, Try.func13⟩ rfl ?_
  refine q0 rfl (o_eqI ?_)
  refine q0 rfl (o_assign ?_)
  refine rg_nil ?_
  refine go_condI (fun h4 => ?_) (fun h4 => ?_)
  · refine go_skip ?_
    refine go_condT ?_
    refine go_seq ?_
    refine go_region ⟨_, Try.func13⟩ rfl ?_
    refine q0 rfl (o_assign ?_)
    refine rg_nil ?_
    refine ret1 Try.func13 Try.results13 (by first | ((conv => lhs; whnf); done) | rfl) () (by simp_all [kidsN]) (fun w hs => hs.none)
  · refine go_seq ?_
    refine go_region ⟨_, Try.func13⟩ rfl ?_
    refine q0 rfl (o_eqI ?_)
    refine q0 rfl (o_assign ?_)
    refine rg_nil ?_
    refine go_condI (fun h4 => ?_) (fun h4 => ?_)
    · refine go_skip ?_
      refine go_condT ?_
      refine go_seq ?_
      refine go_region ⟨_, Try.func13⟩ rfl ?_
      refine q0 rfl (o_assign ?_)
      refine rg_nil ?_
      refine ret1 Try.func13 Try.results13 (by first | ((conv => lhs; whnf); done) | rfl) () (by simp_all [kidsN]) (fun w hs => hs.none)
    · refine go_seq ?_
      refine go_region ⟨_, Try.func13⟩ rfl ?_
      refine q0 rfl (o_eqI ?_)
      refine q0 rfl (o_assign ?_)
      refine rg_nil ?_
      refine go_condI (fun h4 => ?_) (fun h4 => ?_)
      · refine go_skip ?_
        refine go_condT ?_
        refine go_seq ?_
        refine go_region ⟨_, Try.func13⟩ rfl ?_
        refine q0 rfl (o_assign ?_)
        refine rg_nil ?_
        refine ret1 Try.func13 Try.results13 (by first | ((conv => lhs; whnf); done) | rfl) () (by simp_all [kidsN]) (fun w hs => hs.none)
      · refine go_seq ?_
        refine go_region ⟨_, Try.func13⟩ rfl ?_
        refine q0 rfl (o_eqI ?_)
        refine q0 rfl (o_assign ?_)
        refine rg_nil ?_
        refine go_condI (fun h4 => ?_) (fun h4 => ?_)
        · refine go_skip ?_
          refine go_condT ?_
          refine go_seq ?_
          refine go_region ⟨_, Try.func13⟩ rfl ?_
          refine q0 rfl (o_assign ?_)
          refine rg_nil ?_
          refine ret1 Try.func13 Try.results13 (by first | ((conv => lhs; whnf); done) | rfl) () (by simp_all [kidsN]) (fun w hs => hs.none)
        · refine go_seq ?_
          refine go_region ⟨_, Try.func13⟩ rfl ?_
          refine q0 rfl (o_eqI ?_)
          refine q0 rfl (o_assign ?_)
          refine rg_nil ?_
          refine go_condI (fun h4 => ?_) (fun h4 => ?_)
          · refine go_skip ?_
            refine go_condT ?_
            refine go_seq ?_
            refine go_region ⟨_, Try.func13⟩ rfl ?_
            refine q0 rfl (o_assign ?_)
            refine rg_nil ?_
            refine ret1 Try.func13 Try.results13 (by first | ((conv => lhs; whnf); done) | rfl) () (by simp_all [kidsN]) (fun w hs => hs.none)
          · refine go_seq ?_
            refine go_region ⟨_, Try.func13⟩ rfl ?_
            refine q0 rfl (o_eqI ?_)
            refine q0 rfl (o_assign ?_)
            refine rg_nil ?_
            refine go_condI (fun h4 => ?_) (fun h4 => ?_)
            · refine go_skip ?_
              refine go_condT ?_
              refine go_seq ?_
              refine go_region ⟨_, Try.func13⟩ rfl ?_
              refine q0 rfl (o_assign ?_)
              refine rg_nil ?_
              refine ret1 Try.func13 Try.results13 (by first | ((conv => lhs; whnf); done) | rfl) () (by simp_all [kidsN]) (fun w hs => hs.none)
            · refine go_seq ?_
              refine go_region ⟨_, Try.func13⟩ rfl ?_
              refine q0 rfl (o_eqI ?_)
              refine q0 rfl (o_assign ?_)
              refine rg_nil ?_
              refine go_condI (fun h4 => ?_) (fun h4 => ?_)
              · refine go_skip ?_
                refine go_condT ?_
                refine go_seq ?_
                refine go_region ⟨_, Try.func13⟩ rfl ?_
                refine q0 rfl (o_assign ?_)
                refine rg_nil ?_
                refine ret1 Try.func13 Try.results13 (by first | ((conv => lhs; whnf); done) | rfl) () (by simp_all [kidsN]) (fun w hs => hs.none)
              · refine go_region ⟨_, Try.func13⟩ rfl ?_
                refine q0 rfl (o_eqI ?_)
                refine q0 rfl (o_assign ?_)
                refine rg_nil ?_
                refine go_condI (fun h4 => ?_) (fun h4 => ?_)
                · refine go_seq ?_
                  refine go_region ⟨_, Try.func13⟩ rfl ?_
                  refine q0 rfl (o_assign ?_)
                  refine rg_nil ?_
                  refine ret1 Try.func13 Try.results13 (by first | ((conv => lhs; whnf); done) | rfl) () (by simp_all [kidsN]) (fun w hs => hs.none)
                · refine go_seq ?_
                  refine go_seq ?_
                  refine go_region ⟨_, Try.func13⟩ rfl ?_
                  refine q0 rfl (o_eqI ?_)
                  refine q0 rfl (o_assign ?_)
                  refine rg_nil ?_
                  refine go_condI (fun h13 => ?_) (fun h13 => ?_)
                  · refine go_skip ?_
                    refine go_condT ?_
                    refine go_seq ?_
                    refine go_region ⟨_, Try.func13⟩ rfl ?_
                    refine q0 rfl (o_assign ?_)
                    refine rg_nil ?_
                    refine ret1 Try.func13 Try.results13 (by first | ((conv => lhs; whnf); done) | rfl) () (by simp_all [kidsN]) (fun w hs => hs.none)
                  · refine go_seq ?_
                    refine go_region ⟨_, Try.func13⟩ rfl ?_
                    refine q0 rfl (o_eqI ?_)
                    refine q0 rfl (o_assign ?_)
                    refine rg_nil ?_
                    refine go_condI (fun h13 => ?_) (fun h13 => ?_)
                    · refine go_skip ?_
                      refine go_condT ?_
                      refine go_seq ?_
                      refine go_region ⟨_, Try.func13⟩ rfl ?_
                      refine q0 rfl (o_assign ?_)
                      refine rg_nil ?_
                      refine ret1 Try.func13 Try.results13 (by first | ((conv => lhs; whnf); done) | rfl) () (by simp_all [kidsN]) (fun w hs => hs.none)
                    · refine go_seq ?_
                      refine go_region ⟨_, Try.func13⟩ rfl ?_
                      refine q0 rfl (o_eqI ?_)
                      refine q0 rfl (o_assign ?_)
                      refine rg_nil ?_
                      refine go_condI (fun h13 => ?_) (fun h13 => ?_)
                      · refine go_skip ?_
                        refine go_condT ?_
                        refine go_seq ?_
                        refine go_region ⟨_, Try.func13⟩ rfl ?_
                        refine q0 rfl (o_assign ?_)
                        refine rg_nil ?_
                        refine ret1 Try.func13 Try.results13 (by first | ((conv => lhs; whnf); done) | rfl) () (by simp_all [kidsN]) (fun w hs => hs.none)
                      · refine go_seq ?_
                        refine go_region ⟨_, Try.func13⟩ rfl ?_
                        refine q0 rfl (o_eqI ?_)
                        refine q0 rfl (o_assign ?_)
                        refine rg_nil ?_
                        refine go_condI (fun h13 => ?_) (fun h13 => ?_)
                        · refine go_skip ?_
                          refine go_condT ?_
                          refine go_seq ?_
                          refine go_region ⟨_, Try.func13⟩ rfl ?_
                          refine q0 rfl (o_assign ?_)
                          refine rg_nil ?_
                          refine ret1 Try.func13 Try.results13 (by first | ((conv => lhs; whnf); done) | rfl) () (by simp_all [kidsN]) (fun w hs => hs.none)
                        · refine go_seq ?_
                          refine go_region ⟨_, Try.func13⟩ rfl ?_
                          refine q0 rfl (o_eqI ?_)
                          refine q0 rfl (o_assign ?_)
                          refine rg_nil ?_
                          refine go_condI (fun h13 => ?_) (fun h13 => ?_)
                          · refine go_skip ?_
                            refine go_condT ?_
                            refine go_seq ?_
                            refine go_region ⟨_, Try.func13⟩ rfl ?_
                            refine q0 rfl (o_assign ?_)
                            refine rg_nil ?_
                            refine ret1 Try.func13 Try.results13 (by first | ((conv => lhs; whnf); done) | rfl) () (by simp_all [kidsN]) (fun w hs => hs.none)
                          · refine go_seq ?_
                            refine go_region ⟨_, Try.func13⟩ rfl ?_
                            refine q0 rfl (o_eqI ?_)
                            refine q0 rfl (o_assign ?_)
                            refine rg_nil ?_
                            refine go_condI (fun h13 => ?_) (fun h13 => ?_)
                            · refine go_skip ?_
                              refine go_condT ?_
                              refine go_seq ?_
                              refine go_region ⟨_, Try.func13⟩ rfl ?_
                              refine q0 rfl (o_assign ?_)
                              refine rg_nil ?_
                              refine ret1 Try.func13 Try.results13 (by first | ((conv => lhs; whnf); done) | rfl) () (by simp_all [kidsN]) (fun w hs => hs.none)
                            · refine go_seq ?_
                              refine go_region ⟨_, Try.func13⟩ rfl ?_
                              refine q0 rfl (o_eqI ?_)
                              refine q0 rfl (o_assign ?_)
                              refine rg_nil ?_
                              refine go_condI (fun h13 => ?_) (fun h13 => ?_)
                              · refine go_skip ?_
                                refine go_condT ?_
                                refine go_seq ?_
                                refine go_region ⟨_, Try.func13⟩ rfl ?_
                                refine q0 rfl (o_assign ?_)
                                refine rg_nil ?_
                                refine ret1 Try.func13 Try.results13 (by first | ((conv => lhs; whnf); done) | rfl) () (by simp_all [kidsN]) (fun w hs => hs.none)
                              · refine go_seq ?_
                                refine go_region ⟨_, Try.func13⟩ rfl ?_
                                refine q0 rfl (o_eqI ?_)
                                refine q0 rfl (o_assign ?_)
                                refine rg_nil ?_
                                refine go_condI (fun h13 => ?_) (fun h13 => ?_)
                                · refine go_skip ?_
                                  refine go_condT ?_
                                  refine go_seq ?_
                                  refine go_region ⟨_, Try.func13⟩ rfl ?_
                                  refine q0 rfl (o_assign ?_)
                                  refine rg_nil ?_
                                  refine ret1 Try.func13 Try.results13 (by first | ((conv => lhs; whnf); done) | rfl) () (by simp_all [kidsN]) (fun w hs => hs.none)
                                · refine go_region ⟨_, Try.func13⟩ rfl ?_
                                  refine q0 rfl (o_eqI ?_)
                                  refine q0 rfl (o_assign ?_)
                                  refine rg_nil ?_
                                  refine go_condI (fun h13 => ?_) (fun h13 => ?_)
                                  · refine go_seq ?_
                                    refine go_region ⟨_, Try.func13⟩ rfl ?_
                                    refine q0 rfl (o_assign ?_)
                                    refine rg_nil ?_
                                    refine ret1 Try.func13 Try.results13 (by first | ((conv => lhs; whnf); done) | rfl) () (by simp_all [kidsN]) (fun w hs => hs.none)
                                  · refine go_seq ?_
                                    refine go_seq ?_
                                    refine go_region ⟨_, Try.func13⟩ rfl ?_
                                    refine q0 rfl (o_eqI ?_)
                                    refine q0 rfl (o_assign ?_)
                                    refine rg_nil ?_
                                    refine go_condI (fun h23 => ?_) (fun h23 => ?_)
                                    · refine go_skip ?_
                                      refine go_condT ?_
                                      refine go_seq ?_
                                      refine go_region ⟨_, Try.func13⟩ rfl ?_
                                      refine q0 rfl (o_assign ?_)
                                      refine rg_nil ?_
                                      refine ret1 Try.func13 Try.results13 (by first | ((conv => lhs; whnf); done) | rfl) () (by simp_all [kidsN]) (fun w hs => hs.none)
                                    · refine go_seq ?_
                                      refine go_region ⟨_, Try.func13⟩ rfl ?_
                                      refine q0 rfl (o_eqI ?_)
                                      refine q0 rfl (o_assign ?_)
                                      refine rg_nil ?_
                                      refine go_condI (fun h23 => ?_) (fun h23 => ?_)
                                      · refine go_skip ?_
                                        refine go_condT ?_
                                        refine go_seq ?_
                                        refine go_region ⟨_, Try.func13⟩ rfl ?_
                                        refine q0 rfl (o_assign ?_)
                                        refine rg_nil ?_
                                        refine ret1 Try.func13 Try.results13 (by first | ((conv => lhs; whnf); done) | rfl) () (by simp_all [kidsN]) (fun w hs => hs.none)
                                      · refine go_seq ?_
                                        refine go_region ⟨_, Try.func13⟩ rfl ?_
                                        refine q0 rfl (o_eqI ?_)
                                        refine q0 rfl (o_assign ?_)
                                        refine rg_nil ?_
                                        refine go_condI (fun h23 => ?_) (fun h23 => ?_)
                                        · refine go_skip ?_
                                          refine go_condT ?_
                                          refine go_seq ?_
                                          refine go_region ⟨_, Try.func13⟩ rfl ?_
                                          refine q0 rfl (o_assign ?_)
                                          refine rg_nil ?_
                                          refine ret1 Try.func13 Try.results13 (by first | ((conv => lhs; whnf); done) | rfl) () (by simp_all [kidsN]) (fun w hs => hs.none)
                                        · refine go_seq ?_
                                          refine go_region ⟨_, Try.func13⟩ rfl ?_
                                          refine q0 rfl (o_eqI ?_)
                                          refine q0 rfl (o_assign ?_)
                                          refine rg_nil ?_
                                          refine go_condI (fun h23 => ?_) (fun h23 => ?_)
                                          · refine go_skip ?_
                                            refine go_condT ?_
                                            refine go_seq ?_
                                            refine go_region ⟨_, Try.func13⟩ rfl ?_
                                            refine q0 rfl (o_assign ?_)
                                            refine rg_nil ?_
                                            refine ret1 Try.func13 Try.results13 (by first | ((conv => lhs; whnf); done) | rfl) () (by simp_all [kidsN]) (fun w hs => hs.none)
                                          · refine go_seq ?_
                                            refine go_region ⟨_, Try.func13⟩ rfl ?_
                                            refine q0 rfl (o_eqI ?_)
                                            refine q0 rfl (o_assign ?_)
                                            refine rg_nil ?_
                                            refine go_condI (fun h23 => ?_) (fun h23 => ?_)
                                            · refine go_skip ?_
                                              refine go_condT ?_
                                              refine go_seq ?_
                                              refine go_region ⟨_, Try.func13⟩ rfl ?_
                                              refine q0 rfl (o_assign ?_)
                                              refine rg_nil ?_
                                              refine ret1 Try.func13 Try.results13 (by first | ((conv => lhs; whnf); done) | rfl) () (by simp_all [kidsN]) (fun w hs => hs.none)
                                            · refine go_seq ?_
                                              refine go_region ⟨_, Try.func13⟩ rfl ?_
                                              refine q0 rfl (o_eqI ?_)
                                              refine q0 rfl (o_assign ?_)
                                              refine rg_nil ?_
                                              refine go_condI (fun h23 => ?_) (fun h23 => ?_)
                                              · refine go_skip ?_
                                                refine go_condT ?_
                                                refine go_seq ?_
                                                refine go_region ⟨_, Try.func13⟩ rfl ?_
                                                refine q0 rfl (o_assign ?_)
                                                refine rg_nil ?_
                                                refine ret1 Try.func13 Try.results13 (by first | ((conv => lhs; whnf); done) | rfl) () (by simp_all [kidsN]) (fun w hs => hs.none)
                                              · refine go_region ⟨_, Try.func13⟩ rfl ?_
                                                refine q0 rfl (o_eqI ?_)
                                                refine q0 rfl (o_assign ?_)
                                                refine rg_nil ?_
                                                refine go_condI (fun h23 => ?_) (fun h23 => ?_)
                                                · refine go_seq ?_
                                                  refine go_region ⟨_, Try.func13⟩ rfl ?_
                                                  refine q0 rfl (o_assign ?_)
                                                  refine rg_nil ?_
                                                  refine ret1 Try.func13 Try.results13 (by first | ((conv => lhs; whnf); done) | rfl) () (by simp_all [kidsN]) (fun w hs => hs.none)
                                                · refine go_seq ?_
                                                  refine go_seq ?_
                                                  refine go_region ⟨_, Try.func13⟩ rfl ?_
                                                  refine q0 rfl (o_eqI ?_)
                                                  refine q0 rfl (o_assign ?_)
                                                  refine rg_nil ?_
                                                  refine go_condI (fun h31 => ?_) (fun h31 => ?_)
                                                  · refine go_skip ?_
                                                    refine go_condT ?_
                                                    refine go_seq ?_
                                                    refine go_region ⟨_, Try.func13⟩ rfl ?_
                                                    refine q0 rfl (o_assign ?_)
                                                    refine rg_nil ?_
                                                    refine ret1 Try.func13 Try.results13 (by first | ((conv => lhs; whnf); done) | rfl) () (by simp_all [kidsN]) (fun w hs => hs.none)
                                                  · refine go_region ⟨_, Try.func13⟩ rfl ?_
                                                    refine q0 rfl (o_eqI ?_)
                                                    refine q0 rfl (o_assign ?_)
                                                    refine rg_nil ?_
                                                    refine go_condI (fun h31 => ?_) (fun h31 => ?_)
                                                    · refine go_seq ?_
                                                      refine go_region ⟨_, Try.func13⟩ rfl ?_
                                                      refine q0 rfl (o_assign ?_)
                                                      refine rg_nil ?_
                                                      refine ret1 Try.func13 Try.results13 (by first | ((conv => lhs; whnf); done) | rfl) () (by simp_all [kidsN]) (fun w hs => hs.none)
                                                    · refine go_seq ?_
                                                      refine go_region ⟨_, Try.func13⟩ rfl ?_
                                                      refine q0 rfl (o_eqI ?_)
                                                      refine q0 rfl (o_assign ?_)
                                                      refine rg_nil ?_
                                                      refine go_condI (fun h34 => ?_) (fun h34 => ?_)
                                                      · refine go_seq ?_
                                                        refine go_region ⟨_, Try.func13⟩ rfl ?_
                                                        refine q0 rfl (o_assign ?_)
                                                        refine rg_nil ?_
                                                        refine ret1 Try.func13 Try.results13 (by first | ((conv => lhs; whnf); done) | rfl) () (by simp_all [kidsN]) (fun w hs => hs.none)
                                                      · refine go_seq ?_
                                                        refine go_region ⟨_, Try.func13⟩ rfl ?_
                                                        refine q0 rfl (o_eqI ?_)
                                                        refine q0 rfl (o_assign ?_)
                                                        refine rg_nil ?_
                                                        refine go_condI (fun h36 => ?_) (fun h36 => ?_)
                                                        · refine go_seq ?_
                                                          refine go_region ⟨_, Try.func13⟩ rfl ?_
                                                          refine q0 rfl (o_assign ?_)
                                                          refine rg_nil ?_
                                                          refine ret1 Try.func13 Try.results13 (by first | ((conv => lhs; whnf); done) | rfl) () (by simp_all [kidsN]) (fun w hs => hs.none)
                                                        · refine go_skip ?_
                                                          refine go_inBlock ?_
                                                          refine go_seq ?_
                                                          refine go_region ⟨_, Try.func13⟩ rfl ?_
                                                          refine q0 rfl (o_assign ?_)
                                                          refine rg_nil ?_
                                                          refine ret1 Try.func13 Try.results13 (by first | ((conv => lhs; whnf); done) | rfl) () (by simp_all [kidsN]) (fun w hs => hs.none)
theorem parts_spec (k : Int) : Spec Try.prog 15 #[.int .i64 k] [] [] (fun _ : Unit => .int .i64 (partsN k)) (fun _ => []) (fun _ => []) := by
  refine spec_go (args := [.int .i64 k]) Try.func15 Try.ntmps15 rfl (by exact Nat.le_of_ble_eq_true rfl) fun B hB => ?_
  refine go_seq ?_
  refine go_region ⟨_, Try.func15⟩ rfl ?_
  refine q0 rfl (o_assign ?_)
  refine rg_nil ?_
  refine go_seq ?_
  refine go_seq ?_
  refine go_region ⟨_, Try.func15⟩ rfl ?_
  refine q0 rfl (o_move ?_)
  refine rg_nil ?_
  refine go_block ?_
  refine go_seq ?_
  refine go_seq ?_
  refine go_region ⟨_, Try.func15⟩ rfl ?_
  refine q0 rfl (o_eqI ?_)
  refine q0 rfl (o_assign ?_)
  refine rg_nil ?_
  refine go_condI (fun h4 => ?_) (fun h4 => ?_)
  · refine go_skip ?_
    refine go_condT ?_
    refine go_seq ?_
    refine go_region ⟨_, Try.func15⟩ rfl ?_
    refine q0 rfl (o_assign ?_)
    refine rg_nil ?_
    refine ret1 Try.func15 Try.results15 (by first | ((conv => lhs; whnf); done) | rfl) () (by simp_all [partsN]) (fun w hs => hs.none)
  · refine go_seq ?_
    refine go_region ⟨_, Try.func15⟩ rfl ?_
    refine q0 rfl (o_eqI ?_)
    refine q0 rfl (o_assign ?_)
    refine rg_nil ?_
    refine go_condI (fun h4 => ?_) (fun h4 => ?_)
    · refine go_skip ?_
      refine go_condT ?_
      refine go_seq ?_
      refine go_region ⟨_, Try.func15⟩ rfl ?_
      refine q0 rfl (o_assign ?_)
      refine rg_nil ?_
      refine ret1 Try.func15 Try.results15 (by first | ((conv => lhs; whnf); done) | rfl) () (by simp_all [partsN]) (fun w hs => hs.none)
    · refine go_region ⟨_, Try.func15⟩ rfl ?_
      refine q0 rfl (o_eqI ?_)
      refine q0 rfl (o_assign ?_)
      refine rg_nil ?_
      refine go_condI (fun h4 => ?_) (fun h4 => ?_)
      · refine go_seq ?_
        refine go_region ⟨_, Try.func15⟩ rfl ?_
        refine q0 rfl (o_assign ?_)
        refine rg_nil ?_
        refine ret1 Try.func15 Try.results15 (by first | ((conv => lhs; whnf); done) | rfl) () (by simp_all [partsN]) (fun w hs => hs.none)
      · refine go_seq ?_
        refine go_region ⟨_, Try.func15⟩ rfl ?_
        refine q0 rfl (o_eqI ?_)
        refine q0 rfl (o_assign ?_)
        refine rg_nil ?_
        refine go_condI (fun h8 => ?_) (fun h8 => ?_)
        · refine go_seq ?_
          refine go_region ⟨_, Try.func15⟩ rfl ?_
          refine q0 rfl (o_assign ?_)
          refine rg_nil ?_
          refine ret1 Try.func15 Try.results15 (by first | ((conv => lhs; whnf); done) | rfl) () (by simp_all [partsN]) (fun w hs => hs.none)
        · refine go_skip ?_
          refine go_inBlock ?_
          refine go_seq ?_
          refine go_region ⟨_, Try.func15⟩ rfl ?_
          refine q0 rfl (o_assign ?_)
          refine rg_nil ?_
          refine ret1 Try.func15 Try.results15 (by first | ((conv => lhs; whnf); done) | rfl) () (by simp_all [partsN]) (fun w hs => hs.none)
end Go.Hy
namespace Go.Hy
set_option linter.unusedVariables false
set_option linter.unusedSimpArgs false
set_option linter.unusedSectionVars false
open Go.Proofs
set_option linter.unusedVariables false
set_option linter.unusedSimpArgs false
set_option maxRecDepth 100000
/-- What goes through all parts. -/
theorem each_all (t : T) (vr vk vs : SH) (c : FuncId) (cap : List Value) (FΓ : List Fact) (SM : Nat → List Res)
    (hc : ∀ (args : Array Value) (w : World), (callFunc c args).run Try.prog w = .ok (.enter c args) w)
    (hcl : ∀ m k v d, (parts t)[m]? = some (k, v, d) → ∀ vr vk vs, Spec Try.prog c (.agg (tc k vr vk vs).toArray :: .int .i64 v :: .int .i64 d :: cap).toArray (RT k vr vk vs :: FΓ) (SM m) (fun _ : Unit => .bool true) (fun _ => []) (fun _ => SM (m + 1))) :
    Spec Try.prog 45 #[.agg (tc t vr vk vs).toArray, .func (.func c) #[] cap.toArray] (RT t vr vk vs :: FΓ) (SM 0) (fun _ : Unit => .bool true) (fun _ => []) (fun _ => SM (parts t).length) := by
  have h := each_spec t vr vk vs c cap FΓ SM SM (fun _ => true) hc (fun m k v d hm _ vr vk vs => by simpa using hcl m k v d hm vr vk vs)
  have hf : ∀ n, ff (fun _ => true) n = n := fun n => ff_all (fun _ _ => rfl)
  simpa [hf] using h
theorem size1_walk (k : T) (vr vk vs : SH) (b a : Nat) (v d : Int) (ha : a + size k ≤ 1152921504606846976) (ih : ∀ vr vk vs, Spec Try.prog 21 #[.agg (tc k vr vk vs).toArray] [RT k vr vk vs] [] (fun _ : Unit => .int .i64 (size k : Int)) (fun _ => []) (fun _ => [])) : Spec Try.prog 46 #[.agg (tc k vr vk vs).toArray, .int .i64 v, .int .i64 d, .pointer (some ⟨b, 0, none⟩)] [RT k vr vk vs] [boxR b [.int .i64 (a : Int)] 3] (fun _ : Unit => .bool true) (fun _ => []) (fun _ => [boxR b [.int .i64 ((a + size k : Nat) : Int)] 3]) := by
  refine spec_go (args := [.agg (tc k vr vk vs).toArray, .int .i64 v, .int .i64 d, .pointer (some ⟨b, 0, none⟩)]) Try.func46 Try.ntmps46 rfl (by exact Nat.le_of_ble_eq_true rfl) fun B hB => ?_
  refine go_seq ?_
  refine go_region ⟨_, Try.func46⟩ rfl ?_
  refine q0 rfl (o_box fun b4 => ?_)
  refine q0 rfl (o_assign ?_)
  refine rg_nil ?_
  refine go_seq ?_
  refine go_draw (tn := false) (A := [0, 0, 2, 7, 15]) (l := [0, 1, 2, 3]) (fin := [4]) Tab.mixed ⟨_, Try.func46⟩ (by rfl) ?_
  refine n0 rfl (v_ld ?_)
  refine n0 rfl (v_lds ?_)
  refine n0 rfl (v_call Try.call21 (ih vr vk vs) (fun x10 => ?_))
  refine n0 rfl (v_add ?_)
  refine NV.done ?_
  refine q0 rfl (o_stc ?_)
  refine rg_nil ?_
  refine go_seq ?_
  refine go_region ⟨_, Try.func46⟩ rfl ?_
  refine q0 rfl (o_assign ?_)
  refine rg_nil ?_
  refine ret1 Try.func46 Try.results46 (by first | ((conv => lhs; whnf); done) | rfl) () rfl (fun w hs => (hs.less (by simp)).dropR (A := [_]))
theorem size_walk (t : T) (vr vk vs : SH) (hsz : size t ≤ 1152921504606846976) (ih : ∀ p, p ∈ parts t → size p.1 ≤ 1152921504606846976 → ∀ vr vk vs, Spec Try.prog 21 #[.agg (tc p.1 vr vk vs).toArray] [RT p.1 vr vk vs] [] (fun _ : Unit => .int .i64 (size p.1 : Int)) (fun _ => []) (fun _ => [])) : Spec Try.prog 21 #[.agg (tc t vr vk vs).toArray] [RT t vr vk vs] [] (fun _ : Unit => .int .i64 (size t : Int)) (fun _ => []) (fun _ => []) := by
  refine spec_go (args := [.agg (tc t vr vk vs).toArray]) Try.func21 Try.ntmps21 rfl (by exact Nat.le_of_ble_eq_true rfl) fun B hB => ?_
  have hds := depth_le_size t
  have hdu := depthUpto_le t (parts t).length
  refine go_seq ?_
  refine go_region ⟨_, Try.func21⟩ rfl ?_
  refine q0 rfl (o_box fun b1 => ?_)
  refine q0 rfl (o_assign ?_)
  refine rg_nil ?_
  refine go_seq ?_
  refine go_region ⟨_, Try.func21⟩ rfl ?_
  refine q0 rfl (o_new fun b3 => ?_)
  refine q0 rfl (o_st ?_)
  refine rg_nil ?_
  refine go_seq ?_
  refine go_region ⟨_, Try.func21⟩ rfl ?_
  refine q0 rfl (o_lds ?_)
  refine q0 rfl (o_func ?_)
  have hE := each_all t vr vk vs 46 [.pointer (some ⟨b3, 0, none⟩)] [] (fun m => [boxR b3 [.int .i64 (sizeUpto t m : Int)] 3]) Try.call46 (fun m k v d hm vr vk vs => (by have hx := size_part hm; have hy := depth_le_size k; have hz := depthUpto_le t m; have := size1_walk k vr vk vs b3 (sizeUpto t m) v d (by simp only at hx; omega) (ih _ (parts_mem hm) (by omega)); simpa only [sizeUpto_succ hm] using this))
  simp only [sizeUpto_zero, sizeUpto_all] at hE
  refine q0 rfl (o_call Try.call45 (hE) (fun x6 => ?_))
  refine rg_nil ?_
  refine go_seq ?_
  refine go_region ⟨_, Try.func21⟩ rfl ?_
  refine q0 rfl (o_ld ?_)
  refine q0 rfl (o_assign ?_)
  refine rg_nil ?_
  refine ret1 Try.func21 Try.results21 (by first | ((conv => lhs; whnf); done) | rfl) () rfl (fun w hs => hs.none)
theorem size_spec : ∀ (t : T), size t ≤ 1152921504606846976 → ∀ vr vk vs, Spec Try.prog 21 #[.agg (tc t vr vk vs).toArray] [RT t vr vk vs] [] (fun _ : Unit => .int .i64 (size t : Int)) (fun _ => []) (fun _ => []) :=
  T.ind fun t ih hsz vr vk vs => size_walk t vr vk vs hsz ih
end Go.Hy
namespace Go.Hy
set_option linter.unusedVariables false
set_option linter.unusedSimpArgs false
set_option linter.unusedSectionVars false
open Go.Proofs
set_option linter.unusedVariables false
set_option linter.unusedSimpArgs false
set_option maxRecDepth 100000
/-- A test of all parts. -/
theorem each_bool (t : T) (vr vk vs : SH) (c : FuncId) (cap : List Value) (FΓ : List Fact) (M : List Res) (g : Part → Bool)
    (hc : ∀ (args : Array Value) (w : World), (callFunc c args).run Try.prog w = .ok (.enter c args) w)
    (hcl : ∀ k v d, (k, v, d) ∈ parts t → ∀ vr vk vs, Spec Try.prog c (.agg (tc k vr vk vs).toArray :: .int .i64 v :: .int .i64 d :: cap).toArray (RT k vr vk vs :: FΓ) M (fun _ : Unit => .bool (g (k, v, d))) (fun _ => []) (fun _ => M)) :
    Spec Try.prog 45 #[.agg (tc t vr vk vs).toArray, .func (.func c) #[] cap.toArray] (RT t vr vk vs :: FΓ) M (fun _ : Unit => .bool ((parts t).all g)) (fun _ => []) (fun _ => M) := by
  have h := each_spec t vr vk vs c cap FΓ (fun _ => M) (fun _ => M) (atPart t g) hc (fun m k v d hm _ vr vk vs => by simpa [atPart_some hm] using hcl k v d (parts_mem hm) vr vk vs)
  rw [ff_parts] at h
  simpa using h
abbrev ShallowAt (t : T) : Prop := ∀ (left : Int) vr vk vs, in64 left → Spec Try.prog 67 #[.agg (tc t vr vk vs).toArray, .int .i64 left] [RT t vr vk vs] [] (fun _ : Unit => .bool (decide ((depth t : Int) ≤ left))) (fun _ => []) (fun _ => [])
theorem shallow1_walk (k : T) (vr vk vs : SH) (b : Nat) (left v d : Int) (h0 : 0 < left) (hl : in64 left) (ih : ShallowAt k) : Spec Try.prog 82 #[.agg (tc k vr vk vs).toArray, .int .i64 v, .int .i64 d, .pointer (some ⟨b, 0, none⟩)] [RT k vr vk vs] [boxR b [.int .i64 left] 3] (fun _ : Unit => .bool (decide ((depth k : Int) ≤ left - 1))) (fun _ => []) (fun _ => [boxR b [.int .i64 left] 3]) := by
  refine spec_go (args := [.agg (tc k vr vk vs).toArray, .int .i64 v, .int .i64 d, .pointer (some ⟨b, 0, none⟩)]) Try.func82 Try.ntmps82 rfl (by exact Nat.le_of_ble_eq_true rfl) fun B hB => ?_
  refine go_seq ?_
  refine go_region ⟨_, Try.func82⟩ rfl ?_
  refine q0 rfl (o_box fun b4 => ?_)
  refine q0 rfl (o_assign ?_)
  refine rg_nil ?_
  refine go_seq ?_
  refine go_region ⟨_, Try.func82⟩ rfl ?_
  refine q0 rfl (o_lds ?_)
  refine q0 rfl (o_ld ?_)
  refine q0 rfl (o_sub ?_)
  refine q0 rfl (o_call Try.call67 (ih (left - 1) vr vk vs (by unfold in64 at *; omega)) (fun x11 => ?_))
  refine q0 rfl (o_assign ?_)
  refine rg_nil ?_
  refine ret1 Try.func82 Try.results82 (by first | ((conv => lhs; whnf); done) | rfl) () rfl (fun w hs => (hs.less (by simp)).drop)
theorem shallow_walk (t : T) (ih : ∀ p, p ∈ parts t → ShallowAt p.1) (left : Int) (vr vk vs : SH) (hl : in64 left) : Spec Try.prog 67 #[.agg (tc t vr vk vs).toArray, .int .i64 left] [RT t vr vk vs] [] (fun _ : Unit => .bool (decide ((depth t : Int) ≤ left))) (fun _ => []) (fun _ => []) := by
  refine spec_go (args := [.agg (tc t vr vk vs).toArray, .int .i64 left]) Try.func67 Try.ntmps67 rfl (by exact Nat.le_of_ble_eq_true rfl) fun B hB => ?_
  refine go_seq ?_
  refine go_region ⟨_, Try.func67⟩ rfl ?_
  refine q0 rfl (o_box fun b2 => ?_)
  refine q0 rfl (o_box fun b3 => ?_)
  refine q0 rfl (o_assign ?_)
  refine rg_nil ?_
  refine go_seq ?_
  refine go_region ⟨_, Try.func67⟩ rfl ?_
  refine q0 rfl (o_ld ?_)
  refine q0 rfl (o_gtr ?_)
  refine q0 rfl (o_move ?_)
  refine qI rfl rfl rfl (by conv => lhs; whnf) (fun hg7 => o_lds ?_) (fun hg7 => ?_)
  · refine qT rfl rfl rfl (o_func ?_)
    have h0 : 0 < left := of_decide_eq_true hg7
    have hE := each_bool t vr vk vs 82 [.pointer (some ⟨b3, 0, none⟩)] [] [boxR b3 [.int .i64 left] 3] (fun p => decide ((depth p.1 : Int) ≤ left - 1)) Try.call82 (fun k v d hm vr vk vs => shallow1_walk k vr vk vs b3 left v d h0 hl (ih _ hm))
    rw [← depth_int t left h0] at hE
    refine qT rfl rfl rfl (o_call Try.call45 (hE) (fun x10 => ?_))
    refine q0 rfl (o_pickT ?_)
    refine q0 rfl (o_assign ?_)
    refine rg_nil ?_
    refine ret1 Try.func67 Try.results67 (by first | ((conv => lhs; whnf); done) | rfl) () rfl (fun w hs => hs.none)
  · refine qF rfl rfl rfl ?_
    refine qF rfl rfl rfl ?_
    refine q0 rfl (o_pickF ?_)
    refine q0 rfl (o_assign ?_)
    refine rg_nil ?_
    have h0 : ¬ 0 < left := of_decide_eq_false hg7
    have hp := depth_pos t
    refine ret1 Try.func67 Try.results67 (by first | ((conv => lhs; whnf); done) | rfl) () (by rw [decide_eq_false (by omega)]) (fun w hs => hs.none)
theorem shallow_spec : ∀ t : T, ShallowAt t := T.ind fun t ih left vr vk vs hl => shallow_walk t ih left vr vk vs hl
/-- What is left of a number of nodes. -/
def leftOf (t : T) (m : Int) : Int := if (size t : Int) ≤ m then m - size t else -1
abbrev CountCap (b bc : Nat) : List Value := [.pointer (some ⟨b, 0, none⟩), .pointer (some ⟨bc, 0, none⟩)]
abbrev CountM (b bc : Nat) (m : Int) : List Res := [boxR b [.int .i64 m] 3, boxR bc [.func (.func 83) #[] (CountCap b bc).toArray] 32]
abbrev CountAt (t : T) : Prop := ∀ (m : Int) b bc vr vk vs, 0 ≤ m → in64 m → Spec Try.prog 83 #[.agg (tc t vr vk vs).toArray, .pointer (some ⟨b, 0, none⟩), .pointer (some ⟨bc, 0, none⟩)] [RT t vr vk vs] (CountM b bc m) (fun _ : Unit => .bool (decide ((size t : Int) ≤ m))) (fun _ => []) (fun _ => CountM b bc (leftOf t m))
theorem small11_walk (k : T) (vr vk vs : SH) (b bc : Nat) (m v d : Int) (h0 : 0 ≤ m) (hl : in64 m) (ih : CountAt k) : Spec Try.prog 84 #[.agg (tc k vr vk vs).toArray, .int .i64 v, .int .i64 d, .pointer (some ⟨bc, 0, none⟩)] [RT k vr vk vs] (CountM b bc m) (fun _ : Unit => .bool (decide ((size k : Int) ≤ m))) (fun _ => []) (fun _ => CountM b bc (leftOf k m)) := by
  refine spec_go (args := [.agg (tc k vr vk vs).toArray, .int .i64 v, .int .i64 d, .pointer (some ⟨bc, 0, none⟩)]) Try.func84 Try.ntmps84 rfl (by exact Nat.le_of_ble_eq_true rfl) fun B hB => ?_
  refine go_seq ?_
  refine go_region ⟨_, Try.func84⟩ rfl ?_
  refine q0 rfl (o_box fun b4 => ?_)
  refine q0 rfl (o_assign ?_)
  refine rg_nil ?_
  refine go_seq ?_
  refine go_region ⟨_, Try.func84⟩ rfl ?_
  refine q0 rfl (o_ld ?_)
  refine q0 rfl (o_lds ?_)
  refine q0 rfl (o_callC Try.call83 (ih m b bc vr vk vs h0 hl) (cap := CountCap b bc) (fun x10 => ?_))
  refine q0 rfl (o_assign ?_)
  refine rg_nil ?_
  refine ret1 Try.func84 Try.results84 (by first | ((conv => lhs; whnf); done) | rfl) () rfl (fun w hs => (hs.less (by simp)).dropR (A := CountM b bc (leftOf k m)))
theorem count_each (t : T) (ih : ∀ p, p ∈ parts t → CountAt p.1) (m : Int) (b bc : Nat) (vr vk vs : SH) (h0 : 0 < m) (hl : in64 m) :
    Spec Try.prog 45 #[.agg (tc t vr vk vs).toArray, .func (.func 84) #[] #[.pointer (some ⟨bc, 0, none⟩)]] [RT t vr vk vs] (CountM b bc (m - 1)) (fun _ : Unit => .bool (decide ((size t : Int) ≤ m))) (fun _ => []) (fun _ => CountM b bc (leftOf t m)) := by
  have h := each_spec t vr vk vs 84 [.pointer (some ⟨bc, 0, none⟩)] [] (fun j => CountM b bc (if (sizeUpto t j : Int) ≤ m then m - sizeUpto t j else -1)) (fun _ => CountM b bc (-1)) (fun j => decide ((sizeUpto t (j + 1) : Int) ≤ m)) Try.call84 ?_
  · have hall : (ff (fun j => decide ((sizeUpto t (j + 1) : Int) ≤ m)) (parts t).length == (parts t).length) = decide ((size t : Int) ≤ m) := by
      rw [Bool.eq_iff_iff, beq_iff_eq, ff_eq_iff, decide_eq_true_iff]
      constructor
      · intro h
        cases hn : (parts t).length with
        | zero => have := sizeUpto_all t; rw [hn, sizeUpto_zero] at this; omega
        | succ n =>
          have := h n (by omega)
          rw [← hn, sizeUpto_all] at this
          exact of_decide_eq_true this
      · intro h j hj
        have := sizeUpto_le t (j + 1)
        exact decide_eq_true (by omega)
    simp only [hall, sizeUpto_zero, sizeUpto_all, beq_iff_eq] at h
    rw [if_pos (by omega)] at h
    by_cases hs : (size t : Int) ≤ m
    · have e : ff (fun j => decide ((sizeUpto t (j + 1) : Int) ≤ m)) (parts t).length = (parts t).length := by rw [← beq_iff_eq, hall]; exact decide_eq_true hs
      simp only [e, if_true, if_pos hs] at h
      unfold leftOf; rw [if_pos hs]; exact h
    · have e : ¬ ff (fun j => decide ((sizeUpto t (j + 1) : Int) ≤ m)) (parts t).length = (parts t).length := by rw [← beq_iff_eq, hall]; simpa using hs
      simp only [if_neg e] at h
      unfold leftOf; rw [if_neg hs]; exact h
  · intro j k v d hm hβ vr vk vs
    have hs := sizeUpto_succ hm
    simp only at hs
    have hp := size_pos k
    have hj : (sizeUpto t j : Int) ≤ m := by
      cases j with
      | zero => rw [sizeUpto_zero]; omega
      | succ j => exact of_decide_eq_true (hβ j (by omega))
    have := small11_walk k vr vk vs b bc (m - sizeUpto t j) v d (by omega) (by unfold in64 at *; omega) (ih _ (parts_mem hm))
    rw [if_pos hj]
    have e1 : decide ((size k : Int) ≤ m - sizeUpto t j) = decide ((sizeUpto t (j + 1) : Int) ≤ m) := by rw [hs]; congr 1; apply propext; omega
    rw [e1] at this
    have e2 : CountM b bc (leftOf k (m - sizeUpto t j)) = if decide ((sizeUpto t (j + 1) : Int) ≤ m) = true then CountM b bc (if (sizeUpto t (j + 1) : Int) ≤ m then m - sizeUpto t (j + 1) else -1) else CountM b bc (-1) := by
      unfold leftOf
      by_cases hk : (sizeUpto t (j + 1) : Int) ≤ m
      · rw [if_pos (by omega), if_pos (decide_eq_true hk), if_pos hk, hs]; congr 1; omega
      · rw [if_neg (by omega), if_neg (by simpa using hk)]
    rw [e2] at this
    exact this
theorem small1_walk (t : T) (ih : ∀ p, p ∈ parts t → CountAt p.1) (m : Int) (b bc : Nat) (vr vk vs : SH) (h0 : 0 ≤ m) (hl : in64 m) : Spec Try.prog 83 #[.agg (tc t vr vk vs).toArray, .pointer (some ⟨b, 0, none⟩), .pointer (some ⟨bc, 0, none⟩)] [RT t vr vk vs] (CountM b bc m) (fun _ : Unit => .bool (decide ((size t : Int) ≤ m))) (fun _ => []) (fun _ => CountM b bc (leftOf t m)) := by
  refine spec_go (args := [.agg (tc t vr vk vs).toArray, .pointer (some ⟨b, 0, none⟩), .pointer (some ⟨bc, 0, none⟩)]) Try.func83 Try.ntmps83 rfl (by exact Nat.le_of_ble_eq_true rfl) fun B hB => ?_
  refine go_seq ?_
  refine go_region ⟨_, Try.func83⟩ rfl ?_
  refine q0 rfl (o_box fun b3 => ?_)
  refine q0 rfl (o_assign ?_)
  refine rg_nil ?_
  refine go_seq ?_
  refine go_region ⟨_, Try.func83⟩ rfl ?_
  refine q0 rfl (o_ld ?_)
  refine q0 rfl (o_sub ?_)
  refine q0 rfl (o_stc ?_)
  refine rg_nil ?_
  refine go_seq ?_
  refine go_region ⟨_, Try.func83⟩ rfl ?_
  refine q0 rfl (o_ld ?_)
  refine q0 rfl (o_geq ?_)
  refine q0 rfl (o_move ?_)
  refine qI rfl rfl rfl (by conv => lhs; whnf) (fun hg9 => o_lds ?_) (fun hg9 => ?_)
  · refine qT rfl rfl rfl (o_func ?_)
    have h1 : 0 ≤ m - 1 := of_decide_eq_true hg9
    have hE := count_each t ih m b bc vr vk vs (by omega) hl
    refine qT rfl rfl rfl (o_call Try.call45 (hE) (fun x12 => ?_) (hm := (List.Perm.swap _ _ _).cons _))
    refine q0 rfl (o_pickT ?_)
    refine q0 rfl (o_assign ?_)
    refine rg_nil ?_
    refine ret1 Try.func83 Try.results83 (by first | ((conv => lhs; whnf); done) | rfl) () rfl (fun w hs => (hs.less (by simp)).dropR (A := CountM b bc (leftOf t m)))
  · refine qF rfl rfl rfl ?_
    refine qF rfl rfl rfl ?_
    refine q0 rfl (o_pickF ?_)
    refine q0 rfl (o_assign ?_)
    refine rg_nil ?_
    have h1 : ¬ 0 ≤ m - 1 := of_decide_eq_false hg9
    have hp := size_pos t
    refine ret1 Try.func83 Try.results83 (by first | ((conv => lhs; whnf); done) | rfl) () (by rw [decide_eq_false (by omega)]) (fun w hs => by rw [leftOf, if_neg (by omega), show (-1 : Int) = m - 1 by omega]; exact ((hs.less (Γ' := []) (by simp)).perm ((List.Perm.swap _ _ _).cons _)).dropR (A := CountM b bc (m - 1)))
theorem count_spec : ∀ t : T, CountAt t := T.ind fun t ih m b bc vr vk vs h0 hl => small1_walk t ih m b bc vr vk vs h0 hl
end Go.Hy
namespace Go.Hy
set_option linter.unusedVariables false
set_option linter.unusedSimpArgs false
set_option linter.unusedSectionVars false
open Go.Proofs
set_option linter.unusedVariables false
set_option linter.unusedSimpArgs false
set_option maxRecDepth 100000
def FRight : Prop := ∀ (l : List Cl) (a : SH), Spec Try.prog 86 #[sl a l.length] [CL l a] [] (fun _ : Unit => .bool (fRight l)) (fun _ => []) (fun _ => [])
def FaceRight : Prop := ∀ (l : List Cl) (a : SH), Spec Try.prog 88 #[sl a l.length] [CL l a] [] (fun _ : Unit => .bool (faceRight l)) (fun _ => []) (fun _ => [])
def FDims : Prop := ∀ (l : List Cl) (a : SH), Spec Try.prog 59 #[sl a l.length] [CL l a] [] (fun _ : Unit => .int .u32 (fDims l : Int)) (fun _ => []) (fun _ => [])
def FORM : Prop := FRight ∧ FaceRight ∧ FDims
end Go.Hy
namespace Go.Hy
set_option linter.unusedVariables false
set_option linter.unusedSimpArgs false
set_option linter.unusedSectionVars false
open Go.Proofs
set_option linter.unusedVariables false
set_option linter.unusedSimpArgs false
set_option maxRecDepth 100000
theorem small_spec (t : T) (vr vk vs : SH) (most : Int) (h0 : 0 ≤ most) (hl : in64 most) : Spec Try.prog 68 #[.agg (tc t vr vk vs).toArray, .int .i64 most] [RT t vr vk vs] [] (fun _ : Unit => .bool (decide ((size t : Int) ≤ most))) (fun _ => []) (fun _ => []) := by
  refine spec_go (args := [.agg (tc t vr vk vs).toArray, .int .i64 most]) Try.func68 Try.ntmps68 rfl (by exact Nat.le_of_ble_eq_true rfl) fun B hB => ?_
  refine go_seq ?_
  refine go_region ⟨_, Try.func68⟩ rfl ?_
  refine q0 rfl (o_box fun b2 => ?_)
  refine q0 rfl (o_box fun b3 => ?_)
  refine q0 rfl (o_assign ?_)
  refine rg_nil ?_
  refine go_seq ?_
  refine go_region ⟨_, Try.func68⟩ rfl ?_
  refine q0 rfl (o_new fun b5 => ?_)
  refine rg_nil ?_
  refine go_seq ?_
  refine go_region ⟨_, Try.func68⟩ rfl ?_
  refine q0 rfl (o_func ?_)
  refine q0 rfl (o_st ?_)
  refine rg_nil ?_
  refine go_seq ?_
  refine go_region ⟨_, Try.func68⟩ rfl ?_
  refine q0 rfl (o_ld ?_)
  refine q0 rfl (o_lds ?_)
  refine q0 rfl (o_callC Try.call83 (count_spec t most b3 b5 vr vk vs h0 hl) (cap := CountCap b3 b5) (fun x9 => ?_))
  refine q0 rfl (o_assign ?_)
  refine rg_nil ?_
  refine ret1 Try.func68 Try.results68 (by first | ((conv => lhs; whnf); done) | rfl) () rfl (fun w hs => hs.none)
theorem sized_spec (t : T) (vr vk vs : SH) : Spec Try.prog 54 #[.agg (tc t vr vk vs).toArray] [RT t vr vk vs] [] (fun _ : Unit => .int .i64 (sized t)) (fun _ => []) (fun _ => []) := by
  refine spec_go (args := [.agg (tc t vr vk vs).toArray]) Try.func54 Try.ntmps54 rfl (by exact Nat.le_of_ble_eq_true rfl) fun B hB => ?_
  refine go_seq ?_
  refine go_region ⟨_, Try.func54⟩ rfl ?_
  refine q0 rfl (o_box fun b1 => ?_)
  refine q0 rfl (o_assign ?_)
  refine rg_nil ?_
  refine go_seq ?_
  refine go_block ?_
  refine go_seq ?_
  refine go_region ⟨_, Try.func54⟩ rfl ?_
  refine q0 rfl (o_lds ?_)
  refine q0 rfl (o_call Try.call67 (shallow_spec t 200 vr vk vs (by unfold in64; omega)) (fun x5 => ?_))
  refine q0 rfl (o_not ?_)
  refine q0 rfl (o_assign ?_)
  refine rg_nil ?_
  refine go_condI (fun h3 => ?_) (fun h3 => ?_)
  · refine go_seq ?_
    refine go_region ⟨_, Try.func54⟩ rfl ?_
    refine q0 rfl (o_assign ?_)
    refine rg_nil ?_
    have h : 200 < depth t := by simp at h3; omega
    refine ret1 Try.func54 Try.results54 (by first | ((conv => lhs; whnf); done) | rfl) () (by rw [sized, if_pos h]) (fun w hs => hs.none)
  · refine go_seq ?_
    refine go_region ⟨_, Try.func54⟩ rfl ?_
    refine q0 rfl (o_lds ?_)
    refine q0 rfl (o_call Try.call68 (small_spec t vr vk vs 20000 (by omega) (by unfold in64; omega)) (fun x9 => ?_))
    refine q0 rfl (o_not ?_)
    refine q0 rfl (o_assign ?_)
    refine rg_nil ?_
    refine go_condI (fun h7 => ?_) (fun h7 => ?_)
    · refine go_seq ?_
      refine go_region ⟨_, Try.func54⟩ rfl ?_
      refine q0 rfl (o_assign ?_)
      refine rg_nil ?_
      have h : ¬ 200 < depth t := by simp at h3; omega
      have h2 : 20000 < size t := by simp at h7; omega
      refine ret1 Try.func54 Try.results54 (by first | ((conv => lhs; whnf); done) | rfl) () (by rw [sized, if_neg h, if_pos h2]) (fun w hs => hs.none)
    · refine go_skip ?_
      refine go_inBlock ?_
      refine go_seq ?_
      refine go_region ⟨_, Try.func54⟩ rfl ?_
      refine q0 rfl (o_assign ?_)
      refine rg_nil ?_
      have h : ¬ 200 < depth t := by simp at h3; omega
      have h2 : ¬ 20000 < size t := by simp at h7; omega
      refine ret1 Try.func54 Try.results54 (by first | ((conv => lhs; whnf); done) | rfl) () (by rw [sized, if_neg h, if_neg h2]) (fun w hs => hs.none)
theorem name_spec (s : ByteArray) (hs : s.size ≤ cap47) : Spec Try.prog 85 #[.string s] [] [] (fun _ : Unit => .bool (nameOK s)) (fun _ => []) (fun _ => []) := by
  refine spec_go (args := [.string s]) Try.func85 Try.ntmps85 rfl (by exact Nat.le_of_ble_eq_true rfl) fun B hB => ?_
  refine go_seq ?_
  refine go_region ⟨_, Try.func85⟩ rfl ?_
  refine q0 rfl (o_assign ?_)
  refine rg_nil ?_
  refine go_seq ?_
  refine go_seq ?_
  refine go_region ⟨_, Try.func85⟩ rfl ?_
  refine q0 rfl (o_move ?_)
  refine q0 rfl (o_lenStr ?_)
  refine q0 rfl (o_move ?_)
  refine rg_nil ?_
  refine go_block ?_
  refine go_loopI (X := Nat) (fun i => i ≤ s.size ∧ ∀ j, j < i → okAt s j = true) (fun i => [(0, .string s), (7, .int .i64 (s.size : Int)), (8, .int .i64 (i : Int))]) (fun i => []) (fun i => []) (fun i => s.size - i) (0) (⟨Nat.zero_le _, fun j hj => by omega⟩) (by exact ⟨rfl, rfl, rfl, trivial⟩) ?_ ?_
  · exact fun w hs => hs.none
  · intro i base0 ⟨hi, hok⟩ next0
    refine go_seq ?_
    refine go_region ⟨_, Try.func85⟩ rfl ?_
    refine q0 rfl (o_lss ?_)
    refine rg_nil ?_
    refine go_seq ?_
    refine go_condI (fun h9 => ?_) (fun h9 => ?_)
    · have hlt : i < s.size := by have := of_decide_eq_true h9; omega
      obtain ⟨c, hc, hca⟩ := byte_at hlt
      refine go_skip ?_
      refine go_seq ?_
      refine go_block ?_
      refine go_seq ?_
      refine go_region ⟨_, Try.func85⟩ rfl ?_
      refine q0 rfl (o_move ?_)
      refine q0 rfl (o_assign ?_)
      refine rg_nil ?_
      refine go_seq ?_
      refine go_region ⟨_, Try.func85⟩ rfl ?_
      refine q0 rfl (o_move ?_)
      refine q0 rfl (o_move ?_)
      refine q0 rfl (o_ixStr ?_)
      refine q0 rfl (o_assign ?_)
      refine rg_nil ?_
      refine go_seq ?_
      refine go_cutS ([(0, .string s), (3, .int .i64 (i : Int)), (4, .int .u8 c.toNat), (5, .bool (letter c.toNat)), (7, .int .i64 (s.size : Int)), (8, .int .i64 (i : Int))]) (fun hK => ?_) (fun base => ?_)
      · refine go_region ⟨_, Try.func85⟩ rfl ?_
        refine q0 rfl (o_move ?_)
        refine q0 rfl (o_geq ?_)
        refine q0 rfl (o_move ?_)
        refine qI rfl rfl rfl (by conv => lhs; whnf) (fun hg16 => o_move ?_) (fun hg16 => ?_)
        · refine qT rfl rfl rfl (o_leq ?_)
          refine q0 rfl (o_pickT ?_)
          refine q0 rfl (o_move ?_)
          refine qI rfl rfl rfl (by conv => lhs; whnf) (fun hg20 => o_move ?_) (fun hg20 => ?_)
          · refine qT rfl rfl rfl (o_geq ?_)
            refine qT rfl rfl rfl (o_move ?_)
            refine qI rfl rfl rfl (by conv => lhs; whnf) (fun hg23 => o_move ?_) (fun hg23 => ?_)
            · refine qT rfl rfl rfl (o_leq ?_)
              refine qT rfl rfl rfl (o_pickT ?_)
              refine q0 rfl (o_pickF ?_)
              refine q0 rfl (o_move ?_)
              refine qI rfl rfl rfl (by conv => lhs; whnf) (fun hg28 => o_move ?_) (fun hg28 => ?_)
              · refine qT rfl rfl rfl (o_eqI ?_)
                refine q0 rfl (o_pickF ?_)
                refine q0 rfl (o_assign ?_)
                refine rg_nil ?_
                exact hK _ ⟨rfl, rfl, rfl, (by (conv => lhs; whnf); first | (simp_all [letter]; done) | (simp_all [letter]; omega)), rfl, rfl, trivial⟩
              · refine qF rfl rfl rfl ?_
                refine q0 rfl (o_pickT ?_)
                refine q0 rfl (o_assign ?_)
                refine rg_nil ?_
                exact hK _ ⟨rfl, rfl, rfl, (by (conv => lhs; whnf); first | (simp_all [letter]; done) | (simp_all [letter]; omega)), rfl, rfl, trivial⟩
            · refine qF rfl rfl rfl ?_
              refine qT rfl rfl rfl (o_pickF ?_)
              refine q0 rfl (o_pickF ?_)
              refine q0 rfl (o_move ?_)
              refine qT rfl rfl rfl (o_move ?_)
              refine qT rfl rfl rfl (o_eqI ?_)
              refine q0 rfl (o_pickF ?_)
              refine q0 rfl (o_assign ?_)
              refine rg_nil ?_
              exact hK _ ⟨rfl, rfl, rfl, (by (conv => lhs; whnf); first | (simp_all [letter]; done) | (simp_all [letter]; omega)), rfl, rfl, trivial⟩
          · refine qF rfl rfl rfl ?_
            refine qF rfl rfl rfl ?_
            refine qU rfl rfl rfl ?_
            refine qU rfl rfl rfl ?_
            refine qF rfl rfl rfl ?_
            refine q0 rfl (o_pickT ?_)
            refine q0 rfl (o_move ?_)
            refine qF rfl rfl rfl ?_
            refine qF rfl rfl rfl ?_
            refine q0 rfl (o_pickT ?_)
            refine q0 rfl (o_assign ?_)
            refine rg_nil ?_
            exact hK _ ⟨rfl, rfl, rfl, (by (conv => lhs; whnf); first | (simp_all [letter]; done) | (simp_all [letter]; omega)), rfl, rfl, trivial⟩
        · refine qF rfl rfl rfl ?_
          refine q0 rfl (o_pickF ?_)
          refine q0 rfl (o_move ?_)
          refine qT rfl rfl rfl (o_move ?_)
          refine qT rfl rfl rfl (o_geq ?_)
          refine qT rfl rfl rfl (o_move ?_)
          refine qI rfl rfl rfl (by conv => lhs; whnf) (fun hg23 => o_move ?_) (fun hg23 => ?_)
          · refine qT rfl rfl rfl (o_leq ?_)
            refine qT rfl rfl rfl (o_pickT ?_)
            refine q0 rfl (o_pickF ?_)
            refine q0 rfl (o_move ?_)
            refine qI rfl rfl rfl (by conv => lhs; whnf) (fun hg28 => o_move ?_) (fun hg28 => ?_)
            · refine qT rfl rfl rfl (o_eqI ?_)
              refine q0 rfl (o_pickF ?_)
              refine q0 rfl (o_assign ?_)
              refine rg_nil ?_
              exact hK _ ⟨rfl, rfl, rfl, (by (conv => lhs; whnf); first | (simp_all [letter]; done) | (simp_all [letter]; omega)), rfl, rfl, trivial⟩
            · refine qF rfl rfl rfl ?_
              refine q0 rfl (o_pickT ?_)
              refine q0 rfl (o_assign ?_)
              refine rg_nil ?_
              exact hK _ ⟨rfl, rfl, rfl, (by (conv => lhs; whnf); first | (simp_all [letter]; done) | (simp_all [letter]; omega)), rfl, rfl, trivial⟩
          · refine qF rfl rfl rfl ?_
            refine qT rfl rfl rfl (o_pickF ?_)
            refine q0 rfl (o_pickF ?_)
            refine q0 rfl (o_move ?_)
            refine qT rfl rfl rfl (o_move ?_)
            refine qT rfl rfl rfl (o_eqI ?_)
            refine q0 rfl (o_pickF ?_)
            refine q0 rfl (o_assign ?_)
            refine rg_nil ?_
            exact hK _ ⟨rfl, rfl, rfl, (by (conv => lhs; whnf); first | (simp_all [letter]; done) | (simp_all [letter]; omega)), rfl, rfl, trivial⟩
      · refine go_seq ?_
        refine go_cutS ([(0, .string s), (7, .int .i64 (s.size : Int)), (8, .int .i64 (i : Int)), (45, .bool (!(okAt s i)))]) (fun hK => ?_) (fun base => ?_)
        · refine go_region ⟨_, Try.func85⟩ rfl ?_
          refine q0 rfl (o_move ?_)
          refine q0 rfl (o_not ?_)
          refine q0 rfl (o_move ?_)
          refine qI rfl rfl rfl (by conv => lhs; whnf) (fun hg34 => o_move ?_) (fun hg34 => ?_)
          · refine qT rfl rfl rfl (o_eqI ?_)
            refine qT rfl rfl rfl (o_move ?_)
            refine qI rfl rfl rfl (by conv => lhs; whnf) (fun hg37 => o_move ?_) (fun hg37 => ?_)
            · refine qT rfl rfl rfl (o_lss ?_)
              refine qT rfl rfl rfl (o_pickF ?_)
              refine qT rfl rfl rfl (o_move ?_)
              refine qI rfl rfl rfl (by conv => lhs; whnf) (fun hg41 => o_move ?_) (fun hg41 => ?_)
              · refine qT rfl rfl rfl (o_gtr ?_)
                refine qT rfl rfl rfl (o_pickF ?_)
                refine q0 rfl (o_pickT ?_)
                refine rg_nil ?_
                exact hK _ ⟨rfl, rfl, rfl, (by (conv => lhs; whnf); rw [hca]; first | (simp_all [digit]; done) | (simp_all [digit]; omega) | (simp_all [digit]; rw [← decide_not]; congr 1; apply propext; omega)), trivial⟩
              · refine qF rfl rfl rfl ?_
                refine qT rfl rfl rfl (o_pickT ?_)
                refine q0 rfl (o_pickT ?_)
                refine rg_nil ?_
                exact hK _ ⟨rfl, rfl, rfl, (by (conv => lhs; whnf); rw [hca]; first | (simp_all [digit]; done) | (simp_all [digit]; omega) | (simp_all [digit]; rw [← decide_not]; congr 1; apply propext; omega)), trivial⟩
            · refine qF rfl rfl rfl ?_
              refine qT rfl rfl rfl (o_pickT ?_)
              refine qT rfl rfl rfl (o_move ?_)
              refine qF rfl rfl rfl ?_
              refine qF rfl rfl rfl ?_
              refine qT rfl rfl rfl (o_pickT ?_)
              refine q0 rfl (o_pickT ?_)
              refine rg_nil ?_
              exact hK _ ⟨rfl, rfl, rfl, (by (conv => lhs; whnf); rw [hca]; first | (simp_all [digit]; done) | (simp_all [digit]; omega) | (simp_all [digit]; rw [← decide_not]; congr 1; apply propext; omega)), trivial⟩
          · refine qF rfl rfl rfl ?_
            refine qF rfl rfl rfl ?_
            refine qU rfl rfl rfl ?_
            refine qU rfl rfl rfl ?_
            refine qF rfl rfl rfl ?_
            refine qF rfl rfl rfl ?_
            refine qU rfl rfl rfl ?_
            refine qU rfl rfl rfl ?_
            refine qF rfl rfl rfl ?_
            refine q0 rfl (o_pickF ?_)
            refine rg_nil ?_
            exact hK _ ⟨rfl, rfl, rfl, (by (conv => lhs; whnf); rw [hca]; first | (simp_all [digit]; done) | (simp_all [digit]; omega) | (simp_all [digit]; rw [← decide_not]; congr 1; apply propext; omega)), trivial⟩
        · refine go_condI (fun h45 => ?_) (fun h45 => ?_)
          · refine go_seq ?_
            refine go_region ⟨_, Try.func85⟩ rfl ?_
            refine q0 rfl (o_assign ?_)
            refine rg_nil ?_
            refine ret1 Try.func85 Try.results85 (by first | ((conv => lhs; whnf); done) | rfl) () (by rw [nameOK_not hlt (by simpa using h45)]) (fun w hs => hs.none)
          · refine go_skip ?_
            refine go_inBlock ?_
            refine go_region ⟨_, Try.func85⟩ rfl ?_
            refine q0 rfl (o_add ?_)
            refine q0 rfl (o_move ?_)
            refine rg_nil ?_
            have hb : okAt s i = true := by simpa using h45
            refine go_state (fun w hs => hs) (next0 (i + 1) _ ⟨hlt, fun j hj => (by rcases Nat.lt_succ_iff_lt_or_eq.mp hj with h | h; exact hok j h; subst h; exact hb)⟩ (by omega) ⟨rfl, rfl, rfl, trivial⟩)
    · have hge : i = s.size := by have := of_decide_eq_false h9; omega
      refine go_exit rfl ?_
      refine go_seq ?_
      refine go_region ⟨_, Try.func85⟩ rfl ?_
      refine q0 rfl (o_move ?_)
      refine q0 rfl (o_neS ?_)
      refine q0 rfl (o_assign ?_)
      refine rg_nil ?_
      refine ret1 Try.func85 Try.results85 (by first | ((conv => lhs; whnf); done) | rfl) () (by rw [nameOK_all (by rw [← hge]; exact hok), empty_eq]; rfl) (fun w hs => hs.none)
theorem within_spec (hF : FDims) (l : List Cl) (a : SH) (dims : Int) (h0 : 0 ≤ dims) (hl : in64 dims) : Spec Try.prog 87 #[sl a l.length, .int .i64 dims] [CL l a] [] (fun _ : Unit => .bool (within l dims)) (fun _ => []) (fun _ => []) := by
  refine spec_go (args := [sl a l.length, .int .i64 dims]) Try.func87 Try.ntmps87 rfl (by exact Nat.le_of_ble_eq_true rfl) fun B hB => ?_
  refine go_seq ?_
  refine go_region ⟨_, Try.func87⟩ rfl ?_
  refine q0 rfl (o_assign ?_)
  refine rg_nil ?_
  refine go_seq ?_
  refine go_region ⟨_, Try.func87⟩ rfl ?_
  refine q0 rfl (o_move ?_)
  refine q0 rfl (o_geq ?_)
  refine q0 rfl (o_move ?_)
  refine qI rfl rfl rfl (by conv => lhs; whnf) (fun hg7 => o_move ?_) (fun hg7 => ?_)
  · refine qT rfl rfl rfl (o_call Try.call59 (hF l a) (fun x9 => ?_))
    refine qT rfl rfl rfl (o_move ?_)
    refine qT rfl rfl rfl (o_conv ?_)
    refine qT rfl rfl rfl (o_shrU32 ?_ (m := dims.toNat) (hy := congrArg (Value.int .u64) (toNat_u64 h0 hl)))
    refine qT rfl rfl rfl (o_eqI ?_)
    refine q0 rfl (o_pickF ?_)
    refine q0 rfl (o_assign ?_)
    refine rg_nil ?_
    refine ret1 Try.func87 Try.results87 (by first | ((conv => lhs; whnf); done) | rfl) () (by first | (simp_all [within]; done) | (simp_all [within]; intros; omega)) (fun w hs => hs.none)
  · refine qF rfl rfl rfl ?_
    refine qF rfl rfl rfl ?_
    refine qF rfl rfl rfl ?_
    refine qF rfl rfl rfl ?_
    refine qF rfl rfl rfl ?_
    refine q0 rfl (o_pickT ?_)
    refine q0 rfl (o_assign ?_)
    refine rg_nil ?_
    refine ret1 Try.func87 Try.results87 (by first | ((conv => lhs; whnf); done) | rfl) () (by first | (simp_all [within]; done) | (simp_all [within]; intros; omega)) (fun w hs => hs.none)
end Go.Hy
