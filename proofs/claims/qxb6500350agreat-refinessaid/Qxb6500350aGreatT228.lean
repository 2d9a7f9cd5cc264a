/- MADE BY PROGRAM (tools350/mir.py): mirror and walk. -/
import Derived.Test.Qxb6500350aGreatF2
import Derived.Test.Qxb6500350aGreatT185
import Derived.Test.Qxb6500350aGreatT253
import Derived.Test.Qxb6500350aGreatT254
import Derived.Test.Qxb6500350aGreatT255
import Derived.Test.Qxb6500350aGreatT280
import Derived.Test.Qxb6500350aGreatT281
set_option linter.unusedVariables false
set_option linter.unusedSimpArgs false
set_option maxRecDepth 20000
set_option maxHeartbeats 4000000
namespace Go.Proofs.Qxb6500350aGreat
open Go.Eng

def op_228_11 : Array Go.Oper := #[{ dst := some 80, op := Go.Op.move (Go.Operand.tmp 11), type := 283, pos := "merge.go:59", after := #[], guard := none }, { dst := some 81, op := Go.Op.nilCheck (Go.Operand.tmp 80), type := 0, pos := "merge.go:59", after := #[{ on := 0, ground := Go.Ground.data }], guard := none }, { dst := some 82, op := Go.Op.fieldAddr 285 (Go.Operand.tmp 81) 3, type := 0, pos := "merge.go:59", after := #[{ on := 1, ground := Go.Ground.data }], guard := none }, { dst := some 83, op := Go.Op.load 65 (Go.Operand.tmp 82), type := 65, pos := "merge.go:59", after := #[{ on := 2, ground := Go.Ground.data }], guard := none }, { dst := some 84, op := Go.Op.move (Go.Operand.tmp 11), type := 283, pos := "merge.go:59", after := #[], guard := none }, { dst := some 85, op := Go.Op.nilCheck (Go.Operand.tmp 84), type := 0, pos := "merge.go:59", after := #[{ on := 4, ground := Go.Ground.data }], guard := none }, { dst := some 86, op := Go.Op.fieldAddr 285 (Go.Operand.tmp 85) 4, type := 0, pos := "merge.go:59", after := #[{ on := 5, ground := Go.Ground.data }], guard := none }, { dst := some 87, op := Go.Op.load 65 (Go.Operand.tmp 86), type := 65, pos := "merge.go:59", after := #[{ on := 6, ground := Go.Ground.data }], guard := none }, { dst := some 88, op := Go.Op.call { callee := Go.Callee.value (Go.Operand.func 255), args := #[Go.Operand.tmp 83, Go.Operand.tmp 87], argTypes := #[65, 65] }, type := 65, pos := "merge.go:59", after := #[{ on := 3, ground := Go.Ground.data }, { on := 7, ground := Go.Ground.data }], guard := none }, { dst := some 12, op := Go.Op.assign (Go.Operand.tmp 88), type := 65, pos := "merge.go:59", after := #[{ on := 8, ground := Go.Ground.data }, { on := 8, ground := Go.Ground.chain }, { on := 0, ground := Go.Ground.phase }, { on := 1, ground := Go.Ground.phase }, { on := 2, ground := Go.Ground.phase }, { on := 3, ground := Go.Ground.phase }, { on := 4, ground := Go.Ground.phase }, { on := 5, ground := Go.Ground.phase }, { on := 6, ground := Go.Ground.phase }, { on := 7, ground := Go.Ground.phase }, { on := 8, ground := Go.Ground.phase }], guard := none }]
def op_228_12 : Array Go.Oper := #[{ dst := some 89, op := Go.Op.move (Go.Operand.tmp 11), type := 283, pos := "merge.go:60", after := #[], guard := none }, { dst := some 90, op := Go.Op.nilCheck (Go.Operand.tmp 89), type := 0, pos := "merge.go:60", after := #[{ on := 0, ground := Go.Ground.data }], guard := none }, { dst := some 91, op := Go.Op.fieldAddr 285 (Go.Operand.tmp 90) 3, type := 0, pos := "merge.go:60", after := #[{ on := 1, ground := Go.Ground.data }], guard := none }, { dst := some 92, op := Go.Op.load 65 (Go.Operand.tmp 91), type := 65, pos := "merge.go:60", after := #[{ on := 2, ground := Go.Ground.data }], guard := none }, { dst := some 93, op := Go.Op.move (Go.Operand.tmp 11), type := 283, pos := "merge.go:60", after := #[], guard := none }, { dst := some 94, op := Go.Op.nilCheck (Go.Operand.tmp 93), type := 0, pos := "merge.go:60", after := #[{ on := 4, ground := Go.Ground.data }], guard := none }, { dst := some 95, op := Go.Op.fieldAddr 285 (Go.Operand.tmp 94) 5, type := 0, pos := "merge.go:60", after := #[{ on := 5, ground := Go.Ground.data }], guard := none }, { dst := some 96, op := Go.Op.load 65 (Go.Operand.tmp 95), type := 65, pos := "merge.go:60", after := #[{ on := 6, ground := Go.Ground.data }], guard := none }, { dst := some 97, op := Go.Op.call { callee := Go.Callee.value (Go.Operand.func 255), args := #[Go.Operand.tmp 92, Go.Operand.tmp 96], argTypes := #[65, 65] }, type := 65, pos := "merge.go:60", after := #[{ on := 3, ground := Go.Ground.data }, { on := 7, ground := Go.Ground.data }], guard := none }, { dst := some 13, op := Go.Op.assign (Go.Operand.tmp 97), type := 65, pos := "merge.go:60", after := #[{ on := 8, ground := Go.Ground.data }, { on := 8, ground := Go.Ground.chain }, { on := 0, ground := Go.Ground.phase }, { on := 1, ground := Go.Ground.phase }, { on := 2, ground := Go.Ground.phase }, { on := 3, ground := Go.Ground.phase }, { on := 4, ground := Go.Ground.phase }, { on := 5, ground := Go.Ground.phase }, { on := 6, ground := Go.Ground.phase }, { on := 7, ground := Go.Ground.phase }, { on := 8, ground := Go.Ground.phase }], guard := none }]
def op_228_23 : Array Go.Oper := #[{ dst := some 123, op := Go.Op.move (Go.Operand.tmp 11), type := 283, pos := "merge.go:69", after := #[], guard := none }, { dst := some 124, op := Go.Op.move (Go.Operand.tmp 14), type := 81, pos := "merge.go:69", after := #[], guard := none }, { dst := some 125, op := Go.Op.move (Go.Operand.tmp 17), type := 3, pos := "merge.go:69", after := #[], guard := none }, { dst := some 126, op := Go.Op.move (Go.Operand.tmp 20), type := 3, pos := "merge.go:69", after := #[], guard := none }, { dst := some 127, op := Go.Op.move (Go.Operand.tmp 18), type := 3, pos := "merge.go:69", after := #[], guard := none }, { dst := some 128, op := Go.Op.move (Go.Operand.tmp 12), type := 65, pos := "merge.go:69", after := #[], guard := none }, { dst := some 129, op := Go.Op.move (Go.Operand.tmp 20), type := 3, pos := "merge.go:69", after := #[], guard := none }, { dst := some 130, op := Go.Op.indexAddr 65 (Go.Operand.tmp 128) (Go.Operand.tmp 129), type := 0, pos := "merge.go:69", after := #[{ on := 5, ground := Go.Ground.data }, { on := 6, ground := Go.Ground.data }], guard := none }, { dst := some 131, op := Go.Op.load 3 (Go.Operand.tmp 130), type := 3, pos := "merge.go:69", after := #[{ on := 7, ground := Go.Ground.data }], guard := none }, { dst := some 132, op := Go.Op.move (Go.Operand.tmp 19), type := 3, pos := "merge.go:69", after := #[], guard := none }, { dst := some 133, op := Go.Op.move (Go.Operand.tmp 13), type := 65, pos := "merge.go:69", after := #[], guard := none }, { dst := some 134, op := Go.Op.move (Go.Operand.tmp 20), type := 3, pos := "merge.go:69", after := #[], guard := none }, { dst := some 135, op := Go.Op.indexAddr 65 (Go.Operand.tmp 133) (Go.Operand.tmp 134), type := 0, pos := "merge.go:69", after := #[{ on := 10, ground := Go.Ground.data }, { on := 11, ground := Go.Ground.data }], guard := none }, { dst := some 136, op := Go.Op.load 3 (Go.Operand.tmp 135), type := 3, pos := "merge.go:69", after := #[{ on := 12, ground := Go.Ground.data }], guard := none }, { dst := some 137, op := Go.Op.call { callee := Go.Callee.value (Go.Operand.func 280), args := #[Go.Operand.tmp 123, Go.Operand.tmp 124, Go.Operand.tmp 125, Go.Operand.tmp 126, Go.Operand.tmp 127, Go.Operand.tmp 131, Go.Operand.tmp 132, Go.Operand.tmp 136], argTypes := #[283, 81, 3, 3, 3, 3, 3, 3] }, type := 286, pos := "merge.go:69", after := #[{ on := 0, ground := Go.Ground.data }, { on := 1, ground := Go.Ground.data }, { on := 2, ground := Go.Ground.data }, { on := 3, ground := Go.Ground.data }, { on := 4, ground := Go.Ground.data }, { on := 8, ground := Go.Ground.data }, { on := 9, ground := Go.Ground.data }, { on := 13, ground := Go.Ground.data }], guard := none }, { dst := some 122, op := Go.Op.move (Go.Operand.tmp 137), type := 286, pos := "merge.go:69", after := #[{ on := 14, ground := Go.Ground.data }], guard := none }, { dst := some 138, op := Go.Op.extract (Go.Operand.tmp 122) 0, type := 81, pos := "merge.go:69", after := #[{ on := 15, ground := Go.Ground.data }], guard := none }, { dst := some 139, op := Go.Op.extract (Go.Operand.tmp 122) 1, type := 3, pos := "merge.go:69", after := #[{ on := 15, ground := Go.Ground.data }, { on := 18, ground := Go.Ground.gcOnly Go.Departure.lateStores }], guard := none }, { dst := some 14, op := Go.Op.assign (Go.Operand.tmp 138), type := 81, pos := "merge.go:69", after := #[{ on := 16, ground := Go.Ground.data }, { on := 14, ground := Go.Ground.chain }, { on := 0, ground := Go.Ground.phase }, { on := 1, ground := Go.Ground.phase }, { on := 2, ground := Go.Ground.phase }, { on := 3, ground := Go.Ground.phase }, { on := 4, ground := Go.Ground.phase }, { on := 5, ground := Go.Ground.phase }, { on := 6, ground := Go.Ground.phase }, { on := 7, ground := Go.Ground.phase }, { on := 8, ground := Go.Ground.phase }, { on := 9, ground := Go.Ground.phase }, { on := 10, ground := Go.Ground.phase }, { on := 11, ground := Go.Ground.phase }, { on := 12, ground := Go.Ground.phase }, { on := 13, ground := Go.Ground.phase }, { on := 14, ground := Go.Ground.phase }, { on := 15, ground := Go.Ground.phase }, { on := 16, ground := Go.Ground.phase }, { on := 17, ground := Go.Ground.textOnly Go.Departure.lateStores }], guard := none }, { dst := some 16, op := Go.Op.assign (Go.Operand.tmp 139), type := 3, pos := "merge.go:69", after := #[{ on := 17, ground := Go.Ground.data }, { on := 18, ground := Go.Ground.chain }, { on := 0, ground := Go.Ground.phase }, { on := 1, ground := Go.Ground.phase }, { on := 2, ground := Go.Ground.phase }, { on := 3, ground := Go.Ground.phase }, { on := 4, ground := Go.Ground.phase }, { on := 5, ground := Go.Ground.phase }, { on := 6, ground := Go.Ground.phase }, { on := 7, ground := Go.Ground.phase }, { on := 8, ground := Go.Ground.phase }, { on := 9, ground := Go.Ground.phase }, { on := 10, ground := Go.Ground.phase }, { on := 11, ground := Go.Ground.phase }, { on := 12, ground := Go.Ground.phase }, { on := 13, ground := Go.Ground.phase }, { on := 14, ground := Go.Ground.phase }, { on := 15, ground := Go.Ground.phase }, { on := 16, ground := Go.Ground.phase }, { on := 17, ground := Go.Ground.phase }, { on := 18, ground := Go.Ground.phase }], guard := none }]
def op_228_29 : Array Go.Oper := #[{ dst := some 165, op := Go.Op.move (Go.Operand.tmp 11), type := 283, pos := "merge.go:77", after := #[], guard := none }, { dst := some 166, op := Go.Op.move (Go.Operand.tmp 14), type := 81, pos := "merge.go:77", after := #[], guard := none }, { dst := some 167, op := Go.Op.move (Go.Operand.tmp 17), type := 3, pos := "merge.go:77", after := #[], guard := none }, { dst := some 168, op := Go.Op.move (Go.Operand.tmp 11), type := 283, pos := "merge.go:77", after := #[], guard := none }, { dst := some 169, op := Go.Op.nilCheck (Go.Operand.tmp 168), type := 0, pos := "merge.go:77", after := #[{ on := 3, ground := Go.Ground.data }], guard := none }, { dst := some 170, op := Go.Op.fieldAddr 285 (Go.Operand.tmp 169) 0, type := 0, pos := "merge.go:77", after := #[{ on := 4, ground := Go.Ground.data }], guard := none }, { dst := some 171, op := Go.Op.load 185 (Go.Operand.tmp 170), type := 185, pos := "merge.go:77", after := #[{ on := 5, ground := Go.Ground.data }], guard := none }, { dst := some 172, op := Go.Op.call { callee := Go.Callee.builtin Go.Builtin.len, args := #[Go.Operand.tmp 171], argTypes := #[185] }, type := 3, pos := "merge.go:77", after := #[{ on := 6, ground := Go.Ground.data }], guard := none }, { dst := some 173, op := Go.Op.move (Go.Operand.tmp 18), type := 3, pos := "merge.go:77", after := #[], guard := none }, { dst := some 174, op := Go.Op.move (Go.Operand.tmp 11), type := 283, pos := "merge.go:77", after := #[], guard := none }, { dst := some 175, op := Go.Op.nilCheck (Go.Operand.tmp 174), type := 0, pos := "merge.go:77", after := #[{ on := 9, ground := Go.Ground.data }], guard := none }, { dst := some 176, op := Go.Op.fieldAddr 285 (Go.Operand.tmp 175) 1, type := 0, pos := "merge.go:77", after := #[{ on := 10, ground := Go.Ground.data }], guard := none }, { dst := some 177, op := Go.Op.load 185 (Go.Operand.tmp 176), type := 185, pos := "merge.go:77", after := #[{ on := 11, ground := Go.Ground.data }], guard := none }, { dst := some 178, op := Go.Op.call { callee := Go.Callee.builtin Go.Builtin.len, args := #[Go.Operand.tmp 177], argTypes := #[185] }, type := 3, pos := "merge.go:77", after := #[{ on := 12, ground := Go.Ground.data }], guard := none }, { dst := some 179, op := Go.Op.move (Go.Operand.tmp 19), type := 3, pos := "merge.go:77", after := #[], guard := none }, { dst := some 180, op := Go.Op.move (Go.Operand.tmp 11), type := 283, pos := "merge.go:77", after := #[], guard := none }, { dst := some 181, op := Go.Op.nilCheck (Go.Operand.tmp 180), type := 0, pos := "merge.go:77", after := #[{ on := 15, ground := Go.Ground.data }], guard := none }, { dst := some 182, op := Go.Op.fieldAddr 285 (Go.Operand.tmp 181) 2, type := 0, pos := "merge.go:77", after := #[{ on := 16, ground := Go.Ground.data }], guard := none }, { dst := some 183, op := Go.Op.load 185 (Go.Operand.tmp 182), type := 185, pos := "merge.go:77", after := #[{ on := 17, ground := Go.Ground.data }], guard := none }, { dst := some 184, op := Go.Op.call { callee := Go.Callee.builtin Go.Builtin.len, args := #[Go.Operand.tmp 183], argTypes := #[185] }, type := 3, pos := "merge.go:77", after := #[{ on := 18, ground := Go.Ground.data }], guard := none }, { dst := some 185, op := Go.Op.call { callee := Go.Callee.value (Go.Operand.func 280), args := #[Go.Operand.tmp 165, Go.Operand.tmp 166, Go.Operand.tmp 167, Go.Operand.tmp 172, Go.Operand.tmp 173, Go.Operand.tmp 178, Go.Operand.tmp 179, Go.Operand.tmp 184], argTypes := #[283, 81, 3, 3, 3, 3, 3, 3] }, type := 286, pos := "merge.go:77", after := #[{ on := 0, ground := Go.Ground.data }, { on := 1, ground := Go.Ground.data }, { on := 2, ground := Go.Ground.data }, { on := 7, ground := Go.Ground.data }, { on := 8, ground := Go.Ground.data }, { on := 13, ground := Go.Ground.data }, { on := 14, ground := Go.Ground.data }, { on := 19, ground := Go.Ground.data }], guard := none }, { dst := some 164, op := Go.Op.move (Go.Operand.tmp 185), type := 286, pos := "merge.go:77", after := #[{ on := 20, ground := Go.Ground.data }], guard := none }, { dst := some 186, op := Go.Op.extract (Go.Operand.tmp 164) 0, type := 81, pos := "merge.go:77", after := #[{ on := 21, ground := Go.Ground.data }], guard := none }, { dst := some 187, op := Go.Op.extract (Go.Operand.tmp 164) 1, type := 3, pos := "merge.go:77", after := #[{ on := 21, ground := Go.Ground.data }, { on := 24, ground := Go.Ground.gcOnly Go.Departure.lateStores }], guard := none }, { dst := some 14, op := Go.Op.assign (Go.Operand.tmp 186), type := 81, pos := "merge.go:77", after := #[{ on := 22, ground := Go.Ground.data }, { on := 20, ground := Go.Ground.chain }, { on := 0, ground := Go.Ground.phase }, { on := 1, ground := Go.Ground.phase }, { on := 2, ground := Go.Ground.phase }, { on := 3, ground := Go.Ground.phase }, { on := 4, ground := Go.Ground.phase }, { on := 5, ground := Go.Ground.phase }, { on := 6, ground := Go.Ground.phase }, { on := 7, ground := Go.Ground.phase }, { on := 8, ground := Go.Ground.phase }, { on := 9, ground := Go.Ground.phase }, { on := 10, ground := Go.Ground.phase }, { on := 11, ground := Go.Ground.phase }, { on := 12, ground := Go.Ground.phase }, { on := 13, ground := Go.Ground.phase }, { on := 14, ground := Go.Ground.phase }, { on := 15, ground := Go.Ground.phase }, { on := 16, ground := Go.Ground.phase }, { on := 17, ground := Go.Ground.phase }, { on := 18, ground := Go.Ground.phase }, { on := 19, ground := Go.Ground.phase }, { on := 20, ground := Go.Ground.phase }, { on := 21, ground := Go.Ground.phase }, { on := 22, ground := Go.Ground.phase }, { on := 23, ground := Go.Ground.textOnly Go.Departure.lateStores }], guard := none }, { dst := some 16, op := Go.Op.assign (Go.Operand.tmp 187), type := 3, pos := "merge.go:77", after := #[{ on := 23, ground := Go.Ground.data }, { on := 24, ground := Go.Ground.chain }, { on := 0, ground := Go.Ground.phase }, { on := 1, ground := Go.Ground.phase }, { on := 2, ground := Go.Ground.phase }, { on := 3, ground := Go.Ground.phase }, { on := 4, ground := Go.Ground.phase }, { on := 5, ground := Go.Ground.phase }, { on := 6, ground := Go.Ground.phase }, { on := 7, ground := Go.Ground.phase }, { on := 8, ground := Go.Ground.phase }, { on := 9, ground := Go.Ground.phase }, { on := 10, ground := Go.Ground.phase }, { on := 11, ground := Go.Ground.phase }, { on := 12, ground := Go.Ground.phase }, { on := 13, ground := Go.Ground.phase }, { on := 14, ground := Go.Ground.phase }, { on := 15, ground := Go.Ground.phase }, { on := 16, ground := Go.Ground.phase }, { on := 17, ground := Go.Ground.phase }, { on := 18, ground := Go.Ground.phase }, { on := 19, ground := Go.Ground.phase }, { on := 20, ground := Go.Ground.phase }, { on := 21, ground := Go.Ground.phase }, { on := 22, ground := Go.Ground.phase }, { on := 23, ground := Go.Ground.phase }, { on := 24, ground := Go.Ground.phase }], guard := none }]
theorem sb_228_11_0 : softB op_228_11 #[true, true, true, true, true, true, true, true, false, true] (Array.replicate 10 false) 0 = true := by kernel_rfl
theorem sb_228_11_1 : softB op_228_11 #[true, true, true, true, true, true, true, true, false, true] ((Array.replicate 10 false).setIfInBounds 0 true) 1 = true := by kernel_rfl
theorem sb_228_11_2 : softB op_228_11 #[true, true, true, true, true, true, true, true, false, true] (((Array.replicate 10 false).setIfInBounds 0 true).setIfInBounds 1 true) 2 = true := by kernel_rfl
theorem sb_228_11_3 : softB op_228_11 #[true, true, true, true, true, true, true, true, false, true] ((((Array.replicate 10 false).setIfInBounds 0 true).setIfInBounds 1 true).setIfInBounds 2 true) 3 = true := by kernel_rfl
theorem sb_228_11_4 : softB op_228_11 #[true, true, true, true, true, true, true, true, false, true] (((((Array.replicate 10 false).setIfInBounds 0 true).setIfInBounds 1 true).setIfInBounds 2 true).setIfInBounds 3 true) 4 = true := by kernel_rfl
theorem sb_228_11_5 : softB op_228_11 #[true, true, true, true, true, true, true, true, false, true] ((((((Array.replicate 10 false).setIfInBounds 0 true).setIfInBounds 1 true).setIfInBounds 2 true).setIfInBounds 3 true).setIfInBounds 4 true) 5 = true := by kernel_rfl
theorem sb_228_11_6 : softB op_228_11 #[true, true, true, true, true, true, true, true, false, true] (((((((Array.replicate 10 false).setIfInBounds 0 true).setIfInBounds 1 true).setIfInBounds 2 true).setIfInBounds 3 true).setIfInBounds 4 true).setIfInBounds 5 true) 6 = true := by kernel_rfl
theorem sb_228_11_7 : softB op_228_11 #[true, true, true, true, true, true, true, true, false, true] ((((((((Array.replicate 10 false).setIfInBounds 0 true).setIfInBounds 1 true).setIfInBounds 2 true).setIfInBounds 3 true).setIfInBounds 4 true).setIfInBounds 5 true).setIfInBounds 6 true) 7 = true := by kernel_rfl
theorem sb_228_11_8 : hardB op_228_11 (((((((((Array.replicate 10 false).setIfInBounds 0 true).setIfInBounds 1 true).setIfInBounds 2 true).setIfInBounds 3 true).setIfInBounds 4 true).setIfInBounds 5 true).setIfInBounds 6 true).setIfInBounds 7 true) [8] = true := by kernel_rfl
theorem sb_228_11_9 : softB op_228_11 #[true, true, true, true, true, true, true, true, false, true] ((((((((((Array.replicate 10 false).setIfInBounds 0 true).setIfInBounds 1 true).setIfInBounds 2 true).setIfInBounds 3 true).setIfInBounds 4 true).setIfInBounds 5 true).setIfInBounds 6 true).setIfInBounds 7 true).setIfInBounds 8 true) 9 = true := by kernel_rfl
theorem sb_228_11_10 : hardB op_228_11 (((((((((((Array.replicate 10 false).setIfInBounds 0 true).setIfInBounds 1 true).setIfInBounds 2 true).setIfInBounds 3 true).setIfInBounds 4 true).setIfInBounds 5 true).setIfInBounds 6 true).setIfInBounds 7 true).setIfInBounds 8 true).setIfInBounds 9 true) [] = true := by kernel_rfl
theorem sb_228_12_0 : softB op_228_12 #[true, true, true, true, true, true, true, true, false, true] (Array.replicate 10 false) 0 = true := by kernel_rfl
theorem sb_228_12_1 : softB op_228_12 #[true, true, true, true, true, true, true, true, false, true] ((Array.replicate 10 false).setIfInBounds 0 true) 1 = true := by kernel_rfl
theorem sb_228_12_2 : softB op_228_12 #[true, true, true, true, true, true, true, true, false, true] (((Array.replicate 10 false).setIfInBounds 0 true).setIfInBounds 1 true) 2 = true := by kernel_rfl
theorem sb_228_12_3 : softB op_228_12 #[true, true, true, true, true, true, true, true, false, true] ((((Array.replicate 10 false).setIfInBounds 0 true).setIfInBounds 1 true).setIfInBounds 2 true) 3 = true := by kernel_rfl
theorem sb_228_12_4 : softB op_228_12 #[true, true, true, true, true, true, true, true, false, true] (((((Array.replicate 10 false).setIfInBounds 0 true).setIfInBounds 1 true).setIfInBounds 2 true).setIfInBounds 3 true) 4 = true := by kernel_rfl
theorem sb_228_12_5 : softB op_228_12 #[true, true, true, true, true, true, true, true, false, true] ((((((Array.replicate 10 false).setIfInBounds 0 true).setIfInBounds 1 true).setIfInBounds 2 true).setIfInBounds 3 true).setIfInBounds 4 true) 5 = true := by kernel_rfl
theorem sb_228_12_6 : softB op_228_12 #[true, true, true, true, true, true, true, true, false, true] (((((((Array.replicate 10 false).setIfInBounds 0 true).setIfInBounds 1 true).setIfInBounds 2 true).setIfInBounds 3 true).setIfInBounds 4 true).setIfInBounds 5 true) 6 = true := by kernel_rfl
theorem sb_228_12_7 : softB op_228_12 #[true, true, true, true, true, true, true, true, false, true] ((((((((Array.replicate 10 false).setIfInBounds 0 true).setIfInBounds 1 true).setIfInBounds 2 true).setIfInBounds 3 true).setIfInBounds 4 true).setIfInBounds 5 true).setIfInBounds 6 true) 7 = true := by kernel_rfl
theorem sb_228_12_8 : hardB op_228_12 (((((((((Array.replicate 10 false).setIfInBounds 0 true).setIfInBounds 1 true).setIfInBounds 2 true).setIfInBounds 3 true).setIfInBounds 4 true).setIfInBounds 5 true).setIfInBounds 6 true).setIfInBounds 7 true) [8] = true := by kernel_rfl
theorem sb_228_12_9 : softB op_228_12 #[true, true, true, true, true, true, true, true, false, true] ((((((((((Array.replicate 10 false).setIfInBounds 0 true).setIfInBounds 1 true).setIfInBounds 2 true).setIfInBounds 3 true).setIfInBounds 4 true).setIfInBounds 5 true).setIfInBounds 6 true).setIfInBounds 7 true).setIfInBounds 8 true) 9 = true := by kernel_rfl
theorem sb_228_12_10 : hardB op_228_12 (((((((((((Array.replicate 10 false).setIfInBounds 0 true).setIfInBounds 1 true).setIfInBounds 2 true).setIfInBounds 3 true).setIfInBounds 4 true).setIfInBounds 5 true).setIfInBounds 6 true).setIfInBounds 7 true).setIfInBounds 8 true).setIfInBounds 9 true) [] = true := by kernel_rfl
theorem sb_228_23_0 : softB op_228_23 #[true, true, true, true, true, true, true, true, true, true, true, true, true, true, false, true, true, true, true, true] (Array.replicate 20 false) 0 = true := by kernel_rfl
theorem sb_228_23_1 : softB op_228_23 #[true, true, true, true, true, true, true, true, true, true, true, true, true, true, false, true, true, true, true, true] ((Array.replicate 20 false).setIfInBounds 0 true) 1 = true := by kernel_rfl
theorem sb_228_23_2 : softB op_228_23 #[true, true, true, true, true, true, true, true, true, true, true, true, true, true, false, true, true, true, true, true] (((Array.replicate 20 false).setIfInBounds 0 true).setIfInBounds 1 true) 2 = true := by kernel_rfl
theorem sb_228_23_3 : softB op_228_23 #[true, true, true, true, true, true, true, true, true, true, true, true, true, true, false, true, true, true, true, true] ((((Array.replicate 20 false).setIfInBounds 0 true).setIfInBounds 1 true).setIfInBounds 2 true) 3 = true := by kernel_rfl
theorem sb_228_23_4 : softB op_228_23 #[true, true, true, true, true, true, true, true, true, true, true, true, true, true, false, true, true, true, true, true] (((((Array.replicate 20 false).setIfInBounds 0 true).setIfInBounds 1 true).setIfInBounds 2 true).setIfInBounds 3 true) 4 = true := by kernel_rfl
theorem sb_228_23_5 : softB op_228_23 #[true, true, true, true, true, true, true, true, true, true, true, true, true, true, false, true, true, true, true, true] ((((((Array.replicate 20 false).setIfInBounds 0 true).setIfInBounds 1 true).setIfInBounds 2 true).setIfInBounds 3 true).setIfInBounds 4 true) 5 = true := by kernel_rfl
theorem sb_228_23_6 : softB op_228_23 #[true, true, true, true, true, true, true, true, true, true, true, true, true, true, false, true, true, true, true, true] (((((((Array.replicate 20 false).setIfInBounds 0 true).setIfInBounds 1 true).setIfInBounds 2 true).setIfInBounds 3 true).setIfInBounds 4 true).setIfInBounds 5 true) 6 = true := by kernel_rfl
theorem sb_228_23_7 : softB op_228_23 #[true, true, true, true, true, true, true, true, true, true, true, true, true, true, false, true, true, true, true, true] ((((((((Array.replicate 20 false).setIfInBounds 0 true).setIfInBounds 1 true).setIfInBounds 2 true).setIfInBounds 3 true).setIfInBounds 4 true).setIfInBounds 5 true).setIfInBounds 6 true) 7 = true := by kernel_rfl
theorem sb_228_23_8 : softB op_228_23 #[true, true, true, true, true, true, true, true, true, true, true, true, true, true, false, true, true, true, true, true] (((((((((Array.replicate 20 false).setIfInBounds 0 true).setIfInBounds 1 true).setIfInBounds 2 true).setIfInBounds 3 true).setIfInBounds 4 true).setIfInBounds 5 true).setIfInBounds 6 true).setIfInBounds 7 true) 8 = true := by kernel_rfl
theorem sb_228_23_9 : softB op_228_23 #[true, true, true, true, true, true, true, true, true, true, true, true, true, true, false, true, true, true, true, true] ((((((((((Array.replicate 20 false).setIfInBounds 0 true).setIfInBounds 1 true).setIfInBounds 2 true).setIfInBounds 3 true).setIfInBounds 4 true).setIfInBounds 5 true).setIfInBounds 6 true).setIfInBounds 7 true).setIfInBounds 8 true) 9 = true := by kernel_rfl
theorem sb_228_23_10 : softB op_228_23 #[true, true, true, true, true, true, true, true, true, true, true, true, true, true, false, true, true, true, true, true] (((((((((((Array.replicate 20 false).setIfInBounds 0 true).setIfInBounds 1 true).setIfInBounds 2 true).setIfInBounds 3 true).setIfInBounds 4 true).setIfInBounds 5 true).setIfInBounds 6 true).setIfInBounds 7 true).setIfInBounds 8 true).setIfInBounds 9 true) 10 = true := by kernel_rfl
theorem sb_228_23_11 : softB op_228_23 #[true, true, true, true, true, true, true, true, true, true, true, true, true, true, false, true, true, true, true, true] ((((((((((((Array.replicate 20 false).setIfInBounds 0 true).setIfInBounds 1 true).setIfInBounds 2 true).setIfInBounds 3 true).setIfInBounds 4 true).setIfInBounds 5 true).setIfInBounds 6 true).setIfInBounds 7 true).setIfInBounds 8 true).setIfInBounds 9 true).setIfInBounds 10 true) 11 = true := by kernel_rfl
theorem sb_228_23_12 : softB op_228_23 #[true, true, true, true, true, true, true, true, true, true, true, true, true, true, false, true, true, true, true, true] (((((((((((((Array.replicate 20 false).setIfInBounds 0 true).setIfInBounds 1 true).setIfInBounds 2 true).setIfInBounds 3 true).setIfInBounds 4 true).setIfInBounds 5 true).setIfInBounds 6 true).setIfInBounds 7 true).setIfInBounds 8 true).setIfInBounds 9 true).setIfInBounds 10 true).setIfInBounds 11 true) 12 = true := by kernel_rfl
theorem sb_228_23_13 : softB op_228_23 #[true, true, true, true, true, true, true, true, true, true, true, true, true, true, false, true, true, true, true, true] ((((((((((((((Array.replicate 20 false).setIfInBounds 0 true).setIfInBounds 1 true).setIfInBounds 2 true).setIfInBounds 3 true).setIfInBounds 4 true).setIfInBounds 5 true).setIfInBounds 6 true).setIfInBounds 7 true).setIfInBounds 8 true).setIfInBounds 9 true).setIfInBounds 10 true).setIfInBounds 11 true).setIfInBounds 12 true) 13 = true := by kernel_rfl
theorem sb_228_23_14 : hardB op_228_23 (((((((((((((((Array.replicate 20 false).setIfInBounds 0 true).setIfInBounds 1 true).setIfInBounds 2 true).setIfInBounds 3 true).setIfInBounds 4 true).setIfInBounds 5 true).setIfInBounds 6 true).setIfInBounds 7 true).setIfInBounds 8 true).setIfInBounds 9 true).setIfInBounds 10 true).setIfInBounds 11 true).setIfInBounds 12 true).setIfInBounds 13 true) [14] = true := by kernel_rfl
theorem sb_228_23_15 : softB op_228_23 #[true, true, true, true, true, true, true, true, true, true, true, true, true, true, false, true, true, true, true, true] ((((((((((((((((Array.replicate 20 false).setIfInBounds 0 true).setIfInBounds 1 true).setIfInBounds 2 true).setIfInBounds 3 true).setIfInBounds 4 true).setIfInBounds 5 true).setIfInBounds 6 true).setIfInBounds 7 true).setIfInBounds 8 true).setIfInBounds 9 true).setIfInBounds 10 true).setIfInBounds 11 true).setIfInBounds 12 true).setIfInBounds 13 true).setIfInBounds 14 true) 15 = true := by kernel_rfl
theorem sb_228_23_16 : softB op_228_23 #[true, true, true, true, true, true, true, true, true, true, true, true, true, true, false, true, true, true, true, true] (((((((((((((((((Array.replicate 20 false).setIfInBounds 0 true).setIfInBounds 1 true).setIfInBounds 2 true).setIfInBounds 3 true).setIfInBounds 4 true).setIfInBounds 5 true).setIfInBounds 6 true).setIfInBounds 7 true).setIfInBounds 8 true).setIfInBounds 9 true).setIfInBounds 10 true).setIfInBounds 11 true).setIfInBounds 12 true).setIfInBounds 13 true).setIfInBounds 14 true).setIfInBounds 15 true) 16 = true := by kernel_rfl
theorem sb_228_23_17 : softB op_228_23 #[true, true, true, true, true, true, true, true, true, true, true, true, true, true, false, true, true, true, true, true] ((((((((((((((((((Array.replicate 20 false).setIfInBounds 0 true).setIfInBounds 1 true).setIfInBounds 2 true).setIfInBounds 3 true).setIfInBounds 4 true).setIfInBounds 5 true).setIfInBounds 6 true).setIfInBounds 7 true).setIfInBounds 8 true).setIfInBounds 9 true).setIfInBounds 10 true).setIfInBounds 11 true).setIfInBounds 12 true).setIfInBounds 13 true).setIfInBounds 14 true).setIfInBounds 15 true).setIfInBounds 16 true) 17 = true := by kernel_rfl
theorem sb_228_23_18 : softB op_228_23 #[true, true, true, true, true, true, true, true, true, true, true, true, true, true, false, true, true, true, true, true] (((((((((((((((((((Array.replicate 20 false).setIfInBounds 0 true).setIfInBounds 1 true).setIfInBounds 2 true).setIfInBounds 3 true).setIfInBounds 4 true).setIfInBounds 5 true).setIfInBounds 6 true).setIfInBounds 7 true).setIfInBounds 8 true).setIfInBounds 9 true).setIfInBounds 10 true).setIfInBounds 11 true).setIfInBounds 12 true).setIfInBounds 13 true).setIfInBounds 14 true).setIfInBounds 15 true).setIfInBounds 16 true).setIfInBounds 17 true) 18 = true := by kernel_rfl
theorem sb_228_23_19 : softB op_228_23 #[true, true, true, true, true, true, true, true, true, true, true, true, true, true, false, true, true, true, true, true] ((((((((((((((((((((Array.replicate 20 false).setIfInBounds 0 true).setIfInBounds 1 true).setIfInBounds 2 true).setIfInBounds 3 true).setIfInBounds 4 true).setIfInBounds 5 true).setIfInBounds 6 true).setIfInBounds 7 true).setIfInBounds 8 true).setIfInBounds 9 true).setIfInBounds 10 true).setIfInBounds 11 true).setIfInBounds 12 true).setIfInBounds 13 true).setIfInBounds 14 true).setIfInBounds 15 true).setIfInBounds 16 true).setIfInBounds 17 true).setIfInBounds 18 true) 19 = true := by kernel_rfl
theorem sb_228_23_20 : hardB op_228_23 (((((((((((((((((((((Array.replicate 20 false).setIfInBounds 0 true).setIfInBounds 1 true).setIfInBounds 2 true).setIfInBounds 3 true).setIfInBounds 4 true).setIfInBounds 5 true).setIfInBounds 6 true).setIfInBounds 7 true).setIfInBounds 8 true).setIfInBounds 9 true).setIfInBounds 10 true).setIfInBounds 11 true).setIfInBounds 12 true).setIfInBounds 13 true).setIfInBounds 14 true).setIfInBounds 15 true).setIfInBounds 16 true).setIfInBounds 17 true).setIfInBounds 18 true).setIfInBounds 19 true) [] = true := by kernel_rfl
theorem sb_228_29_0 : softB op_228_29 #[true, true, true, true, true, true, true, true, true, true, true, true, true, true, true, true, true, true, true, true, false, true, true, true, true, true] (Array.replicate 26 false) 0 = true := by kernel_rfl
theorem sb_228_29_1 : softB op_228_29 #[true, true, true, true, true, true, true, true, true, true, true, true, true, true, true, true, true, true, true, true, false, true, true, true, true, true] ((Array.replicate 26 false).setIfInBounds 0 true) 1 = true := by kernel_rfl
theorem sb_228_29_2 : softB op_228_29 #[true, true, true, true, true, true, true, true, true, true, true, true, true, true, true, true, true, true, true, true, false, true, true, true, true, true] (((Array.replicate 26 false).setIfInBounds 0 true).setIfInBounds 1 true) 2 = true := by kernel_rfl
theorem sb_228_29_3 : softB op_228_29 #[true, true, true, true, true, true, true, true, true, true, true, true, true, true, true, true, true, true, true, true, false, true, true, true, true, true] ((((Array.replicate 26 false).setIfInBounds 0 true).setIfInBounds 1 true).setIfInBounds 2 true) 3 = true := by kernel_rfl
theorem sb_228_29_4 : softB op_228_29 #[true, true, true, true, true, true, true, true, true, true, true, true, true, true, true, true, true, true, true, true, false, true, true, true, true, true] (((((Array.replicate 26 false).setIfInBounds 0 true).setIfInBounds 1 true).setIfInBounds 2 true).setIfInBounds 3 true) 4 = true := by kernel_rfl
theorem sb_228_29_5 : softB op_228_29 #[true, true, true, true, true, true, true, true, true, true, true, true, true, true, true, true, true, true, true, true, false, true, true, true, true, true] ((((((Array.replicate 26 false).setIfInBounds 0 true).setIfInBounds 1 true).setIfInBounds 2 true).setIfInBounds 3 true).setIfInBounds 4 true) 5 = true := by kernel_rfl
theorem sb_228_29_6 : softB op_228_29 #[true, true, true, true, true, true, true, true, true, true, true, true, true, true, true, true, true, true, true, true, false, true, true, true, true, true] (((((((Array.replicate 26 false).setIfInBounds 0 true).setIfInBounds 1 true).setIfInBounds 2 true).setIfInBounds 3 true).setIfInBounds 4 true).setIfInBounds 5 true) 6 = true := by kernel_rfl
theorem sb_228_29_7 : softB op_228_29 #[true, true, true, true, true, true, true, true, true, true, true, true, true, true, true, true, true, true, true, true, false, true, true, true, true, true] ((((((((Array.replicate 26 false).setIfInBounds 0 true).setIfInBounds 1 true).setIfInBounds 2 true).setIfInBounds 3 true).setIfInBounds 4 true).setIfInBounds 5 true).setIfInBounds 6 true) 7 = true := by kernel_rfl
theorem sb_228_29_8 : softB op_228_29 #[true, true, true, true, true, true, true, true, true, true, true, true, true, true, true, true, true, true, true, true, false, true, true, true, true, true] (((((((((Array.replicate 26 false).setIfInBounds 0 true).setIfInBounds 1 true).setIfInBounds 2 true).setIfInBounds 3 true).setIfInBounds 4 true).setIfInBounds 5 true).setIfInBounds 6 true).setIfInBounds 7 true) 8 = true := by kernel_rfl
theorem sb_228_29_9 : softB op_228_29 #[true, true, true, true, true, true, true, true, true, true, true, true, true, true, true, true, true, true, true, true, false, true, true, true, true, true] ((((((((((Array.replicate 26 false).setIfInBounds 0 true).setIfInBounds 1 true).setIfInBounds 2 true).setIfInBounds 3 true).setIfInBounds 4 true).setIfInBounds 5 true).setIfInBounds 6 true).setIfInBounds 7 true).setIfInBounds 8 true) 9 = true := by kernel_rfl
theorem sb_228_29_10 : softB op_228_29 #[true, true, true, true, true, true, true, true, true, true, true, true, true, true, true, true, true, true, true, true, false, true, true, true, true, true] (((((((((((Array.replicate 26 false).setIfInBounds 0 true).setIfInBounds 1 true).setIfInBounds 2 true).setIfInBounds 3 true).setIfInBounds 4 true).setIfInBounds 5 true).setIfInBounds 6 true).setIfInBounds 7 true).setIfInBounds 8 true).setIfInBounds 9 true) 10 = true := by kernel_rfl
theorem sb_228_29_11 : softB op_228_29 #[true, true, true, true, true, true, true, true, true, true, true, true, true, true, true, true, true, true, true, true, false, true, true, true, true, true] ((((((((((((Array.replicate 26 false).setIfInBounds 0 true).setIfInBounds 1 true).setIfInBounds 2 true).setIfInBounds 3 true).setIfInBounds 4 true).setIfInBounds 5 true).setIfInBounds 6 true).setIfInBounds 7 true).setIfInBounds 8 true).setIfInBounds 9 true).setIfInBounds 10 true) 11 = true := by kernel_rfl
theorem sb_228_29_12 : softB op_228_29 #[true, true, true, true, true, true, true, true, true, true, true, true, true, true, true, true, true, true, true, true, false, true, true, true, true, true] (((((((((((((Array.replicate 26 false).setIfInBounds 0 true).setIfInBounds 1 true).setIfInBounds 2 true).setIfInBounds 3 true).setIfInBounds 4 true).setIfInBounds 5 true).setIfInBounds 6 true).setIfInBounds 7 true).setIfInBounds 8 true).setIfInBounds 9 true).setIfInBounds 10 true).setIfInBounds 11 true) 12 = true := by kernel_rfl
theorem sb_228_29_13 : softB op_228_29 #[true, true, true, true, true, true, true, true, true, true, true, true, true, true, true, true, true, true, true, true, false, true, true, true, true, true] ((((((((((((((Array.replicate 26 false).setIfInBounds 0 true).setIfInBounds 1 true).setIfInBounds 2 true).setIfInBounds 3 true).setIfInBounds 4 true).setIfInBounds 5 true).setIfInBounds 6 true).setIfInBounds 7 true).setIfInBounds 8 true).setIfInBounds 9 true).setIfInBounds 10 true).setIfInBounds 11 true).setIfInBounds 12 true) 13 = true := by kernel_rfl
theorem sb_228_29_14 : softB op_228_29 #[true, true, true, true, true, true, true, true, true, true, true, true, true, true, true, true, true, true, true, true, false, true, true, true, true, true] (((((((((((((((Array.replicate 26 false).setIfInBounds 0 true).setIfInBounds 1 true).setIfInBounds 2 true).setIfInBounds 3 true).setIfInBounds 4 true).setIfInBounds 5 true).setIfInBounds 6 true).setIfInBounds 7 true).setIfInBounds 8 true).setIfInBounds 9 true).setIfInBounds 10 true).setIfInBounds 11 true).setIfInBounds 12 true).setIfInBounds 13 true) 14 = true := by kernel_rfl
theorem sb_228_29_15 : softB op_228_29 #[true, true, true, true, true, true, true, true, true, true, true, true, true, true, true, true, true, true, true, true, false, true, true, true, true, true] ((((((((((((((((Array.replicate 26 false).setIfInBounds 0 true).setIfInBounds 1 true).setIfInBounds 2 true).setIfInBounds 3 true).setIfInBounds 4 true).setIfInBounds 5 true).setIfInBounds 6 true).setIfInBounds 7 true).setIfInBounds 8 true).setIfInBounds 9 true).setIfInBounds 10 true).setIfInBounds 11 true).setIfInBounds 12 true).setIfInBounds 13 true).setIfInBounds 14 true) 15 = true := by kernel_rfl
theorem sb_228_29_16 : softB op_228_29 #[true, true, true, true, true, true, true, true, true, true, true, true, true, true, true, true, true, true, true, true, false, true, true, true, true, true] (((((((((((((((((Array.replicate 26 false).setIfInBounds 0 true).setIfInBounds 1 true).setIfInBounds 2 true).setIfInBounds 3 true).setIfInBounds 4 true).setIfInBounds 5 true).setIfInBounds 6 true).setIfInBounds 7 true).setIfInBounds 8 true).setIfInBounds 9 true).setIfInBounds 10 true).setIfInBounds 11 true).setIfInBounds 12 true).setIfInBounds 13 true).setIfInBounds 14 true).setIfInBounds 15 true) 16 = true := by kernel_rfl
theorem sb_228_29_17 : softB op_228_29 #[true, true, true, true, true, true, true, true, true, true, true, true, true, true, true, true, true, true, true, true, false, true, true, true, true, true] ((((((((((((((((((Array.replicate 26 false).setIfInBounds 0 true).setIfInBounds 1 true).setIfInBounds 2 true).setIfInBounds 3 true).setIfInBounds 4 true).setIfInBounds 5 true).setIfInBounds 6 true).setIfInBounds 7 true).setIfInBounds 8 true).setIfInBounds 9 true).setIfInBounds 10 true).setIfInBounds 11 true).setIfInBounds 12 true).setIfInBounds 13 true).setIfInBounds 14 true).setIfInBounds 15 true).setIfInBounds 16 true) 17 = true := by kernel_rfl
theorem sb_228_29_18 : softB op_228_29 #[true, true, true, true, true, true, true, true, true, true, true, true, true, true, true, true, true, true, true, true, false, true, true, true, true, true] (((((((((((((((((((Array.replicate 26 false).setIfInBounds 0 true).setIfInBounds 1 true).setIfInBounds 2 true).setIfInBounds 3 true).setIfInBounds 4 true).setIfInBounds 5 true).setIfInBounds 6 true).setIfInBounds 7 true).setIfInBounds 8 true).setIfInBounds 9 true).setIfInBounds 10 true).setIfInBounds 11 true).setIfInBounds 12 true).setIfInBounds 13 true).setIfInBounds 14 true).setIfInBounds 15 true).setIfInBounds 16 true).setIfInBounds 17 true) 18 = true := by kernel_rfl
theorem sb_228_29_19 : softB op_228_29 #[true, true, true, true, true, true, true, true, true, true, true, true, true, true, true, true, true, true, true, true, false, true, true, true, true, true] ((((((((((((((((((((Array.replicate 26 false).setIfInBounds 0 true).setIfInBounds 1 true).setIfInBounds 2 true).setIfInBounds 3 true).setIfInBounds 4 true).setIfInBounds 5 true).setIfInBounds 6 true).setIfInBounds 7 true).setIfInBounds 8 true).setIfInBounds 9 true).setIfInBounds 10 true).setIfInBounds 11 true).setIfInBounds 12 true).setIfInBounds 13 true).setIfInBounds 14 true).setIfInBounds 15 true).setIfInBounds 16 true).setIfInBounds 17 true).setIfInBounds 18 true) 19 = true := by kernel_rfl
theorem sb_228_29_20 : hardB op_228_29 (((((((((((((((((((((Array.replicate 26 false).setIfInBounds 0 true).setIfInBounds 1 true).setIfInBounds 2 true).setIfInBounds 3 true).setIfInBounds 4 true).setIfInBounds 5 true).setIfInBounds 6 true).setIfInBounds 7 true).setIfInBounds 8 true).setIfInBounds 9 true).setIfInBounds 10 true).setIfInBounds 11 true).setIfInBounds 12 true).setIfInBounds 13 true).setIfInBounds 14 true).setIfInBounds 15 true).setIfInBounds 16 true).setIfInBounds 17 true).setIfInBounds 18 true).setIfInBounds 19 true) [20] = true := by kernel_rfl
theorem sb_228_29_21 : softB op_228_29 #[true, true, true, true, true, true, true, true, true, true, true, true, true, true, true, true, true, true, true, true, false, true, true, true, true, true] ((((((((((((((((((((((Array.replicate 26 false).setIfInBounds 0 true).setIfInBounds 1 true).setIfInBounds 2 true).setIfInBounds 3 true).setIfInBounds 4 true).setIfInBounds 5 true).setIfInBounds 6 true).setIfInBounds 7 true).setIfInBounds 8 true).setIfInBounds 9 true).setIfInBounds 10 true).setIfInBounds 11 true).setIfInBounds 12 true).setIfInBounds 13 true).setIfInBounds 14 true).setIfInBounds 15 true).setIfInBounds 16 true).setIfInBounds 17 true).setIfInBounds 18 true).setIfInBounds 19 true).setIfInBounds 20 true) 21 = true := by kernel_rfl
theorem sb_228_29_22 : softB op_228_29 #[true, true, true, true, true, true, true, true, true, true, true, true, true, true, true, true, true, true, true, true, false, true, true, true, true, true] (((((((((((((((((((((((Array.replicate 26 false).setIfInBounds 0 true).setIfInBounds 1 true).setIfInBounds 2 true).setIfInBounds 3 true).setIfInBounds 4 true).setIfInBounds 5 true).setIfInBounds 6 true).setIfInBounds 7 true).setIfInBounds 8 true).setIfInBounds 9 true).setIfInBounds 10 true).setIfInBounds 11 true).setIfInBounds 12 true).setIfInBounds 13 true).setIfInBounds 14 true).setIfInBounds 15 true).setIfInBounds 16 true).setIfInBounds 17 true).setIfInBounds 18 true).setIfInBounds 19 true).setIfInBounds 20 true).setIfInBounds 21 true) 22 = true := by kernel_rfl
theorem sb_228_29_23 : softB op_228_29 #[true, true, true, true, true, true, true, true, true, true, true, true, true, true, true, true, true, true, true, true, false, true, true, true, true, true] ((((((((((((((((((((((((Array.replicate 26 false).setIfInBounds 0 true).setIfInBounds 1 true).setIfInBounds 2 true).setIfInBounds 3 true).setIfInBounds 4 true).setIfInBounds 5 true).setIfInBounds 6 true).setIfInBounds 7 true).setIfInBounds 8 true).setIfInBounds 9 true).setIfInBounds 10 true).setIfInBounds 11 true).setIfInBounds 12 true).setIfInBounds 13 true).setIfInBounds 14 true).setIfInBounds 15 true).setIfInBounds 16 true).setIfInBounds 17 true).setIfInBounds 18 true).setIfInBounds 19 true).setIfInBounds 20 true).setIfInBounds 21 true).setIfInBounds 22 true) 23 = true := by kernel_rfl
theorem sb_228_29_24 : softB op_228_29 #[true, true, true, true, true, true, true, true, true, true, true, true, true, true, true, true, true, true, true, true, false, true, true, true, true, true] (((((((((((((((((((((((((Array.replicate 26 false).setIfInBounds 0 true).setIfInBounds 1 true).setIfInBounds 2 true).setIfInBounds 3 true).setIfInBounds 4 true).setIfInBounds 5 true).setIfInBounds 6 true).setIfInBounds 7 true).setIfInBounds 8 true).setIfInBounds 9 true).setIfInBounds 10 true).setIfInBounds 11 true).setIfInBounds 12 true).setIfInBounds 13 true).setIfInBounds 14 true).setIfInBounds 15 true).setIfInBounds 16 true).setIfInBounds 17 true).setIfInBounds 18 true).setIfInBounds 19 true).setIfInBounds 20 true).setIfInBounds 21 true).setIfInBounds 22 true).setIfInBounds 23 true) 24 = true := by kernel_rfl
theorem sb_228_29_25 : softB op_228_29 #[true, true, true, true, true, true, true, true, true, true, true, true, true, true, true, true, true, true, true, true, false, true, true, true, true, true] ((((((((((((((((((((((((((Array.replicate 26 false).setIfInBounds 0 true).setIfInBounds 1 true).setIfInBounds 2 true).setIfInBounds 3 true).setIfInBounds 4 true).setIfInBounds 5 true).setIfInBounds 6 true).setIfInBounds 7 true).setIfInBounds 8 true).setIfInBounds 9 true).setIfInBounds 10 true).setIfInBounds 11 true).setIfInBounds 12 true).setIfInBounds 13 true).setIfInBounds 14 true).setIfInBounds 15 true).setIfInBounds 16 true).setIfInBounds 17 true).setIfInBounds 18 true).setIfInBounds 19 true).setIfInBounds 20 true).setIfInBounds 21 true).setIfInBounds 22 true).setIfInBounds 23 true).setIfInBounds 24 true) 25 = true := by kernel_rfl
theorem sb_228_29_26 : hardB op_228_29 (((((((((((((((((((((((((((Array.replicate 26 false).setIfInBounds 0 true).setIfInBounds 1 true).setIfInBounds 2 true).setIfInBounds 3 true).setIfInBounds 4 true).setIfInBounds 5 true).setIfInBounds 6 true).setIfInBounds 7 true).setIfInBounds 8 true).setIfInBounds 9 true).setIfInBounds 10 true).setIfInBounds 11 true).setIfInBounds 12 true).setIfInBounds 13 true).setIfInBounds 14 true).setIfInBounds 15 true).setIfInBounds 16 true).setIfInBounds 17 true).setIfInBounds 18 true).setIfInBounds 19 true).setIfInBounds 20 true).setIfInBounds 21 true).setIfInBounds 22 true).setIfInBounds 23 true).setIfInBounds 24 true).setIfInBounds 25 true) [] = true := by kernel_rfl
/- (*diff.Engine).Merge -/
def m228_w1 (n : Nat) (z10 : Texts) (l7 : List Int) (l8 : List Int) (mm : Nat) : (List UInt8) → Int → Int → Int → Int → Int → Int → Option ((List UInt8) × Int × Int × Int × Int × Int × Int) := it7 (fun lp1 l10 c1 c2 c3 c4 c5 c6 =>
cond (decide (c6 < (z10.b.length : Int))) (
ob1 (Option.bind (ixL l7 c6) fun x1 =>
cond (decide ((0 : Int) ≤ x1)) (Option.bind (ixL l8 c6) fun x2 =>
some ((decide ((0 : Int) ≤ x2)))) (some (false))) fun c13 =>
cond c13 (
Option.bind (ixL l7 c6) fun x3 =>
Option.bind (ixL l8 c6) fun x4 =>
ob2 (m280 n z10 l10 c3 c6 c4 x3 c5 x4) fun l12 c14 =>
Option.bind (ixL z10.b c6) fun x5 =>
ob1 (m281 n l12 x5) fun l13 =>
Option.bind (ixL l7 c6) fun x6 =>
Option.bind (ixL l8 c6) fun x7 =>
lp1 l13 (wi (c1 + c14)) c14 (wi (c6 + 1)) (wi (x6 + 1)) (wi (x7 + 1)) (wi (c6 + 1))) (
lp1 l10 c1 c2 c3 c4 c5 (wi (c6 + 1)))) (
some (l10, c1, c2, c3, c4, c5, c6))) mm
def m228 (n : Nat) (e : Engine) (base : Str) (ours : Str) (theirs : Str) : Option (Str × Int × Int × Engine) :=
cond (((decide ((1024 : Int) < (base.length : Int))) || (decide ((1024 : Int) < (ours.length : Int)))) || (decide ((1024 : Int) < (theirs.length : Int)))) (
some ([], 0, 4, e)) (
ob1 (m185 n base) fun l1 =>
nm ({ Texts.zero with b := l1 } : Texts) fun z1 =>
ob1 (m185 n ours) fun l2 =>
nm ({ z1 with o := l2 } : Texts) fun z2 =>
ob1 (m185 n theirs) fun l3 =>
nm ({ z2 with t := l3 } : Texts) fun z3 =>
ob1 (m253 n e) fun z4 =>
ob2 (m254 n z4 z3.b) fun l4 z5 =>
nm ({ z3 with nb := l4 } : Texts) fun z6 =>
ob2 (m254 n z5 z6.o) fun l5 z7 =>
nm ({ z6 with no := l5 } : Texts) fun z8 =>
ob2 (m254 n z7 z8.t) fun l6 z9 =>
nm ({ z8 with nt := l6 } : Texts) fun z10 =>
ob1 (m255 n z10.nb z10.no) fun l7 =>
ob1 (m255 n z10.nb z10.nt) fun l8 =>
Option.bind (mkL 0 (ours.length : Int) (0 : UInt8)) fun l9 =>
ob7 (m228_w1 n z10 l7 l8 n l9 0 0 0 0 0 0) fun l11 c7 c8 c9 c10 c11 c12 =>
ob2 (m280 n z10 l11 c9 (z10.b.length : Int) c10 (z10.o.length : Int) c11 (z10.t.length : Int)) fun l14 c15 =>
some (l14, (wi (c7 + c15)), 0, z9))
theorem t228 {n : Nat} {C : List Chunk} {rc1 : Str} {rc2 : Int} {rc3 : Int} {rz1 : Engine} {b1 : Nat} {e : Engine} {v1 : Value} {g1 : List Chunk} {v2 : Value} {g2 : List Chunk} {v3 : Value} {g3 : List Chunk} {base : Str} {ours : Str} {theirs : Str} (ho1 : Own rStr v1 e.line_ g1) (ho2 : Own rInt v2 e.sum g2) (ho3 : Own rInt v3 e.nxt g3)  (hm : m228 n e base ours theirs = some (rc1, rc2, rc3, rz1)) : Trip Tryz.prog 228 #[.pointer (some ⟨b1, 0, none⟩), .string ⟨(base : Str).toArray⟩, .string ⟨(ours : Str).toArray⟩, .string ⟨(theirs : Str).toArray⟩] ([[(b1, .cells (Engine.enc (v1) (v2) (v3) e).toArray 187 (0, 0))], g1, g2, g3] ++ [C]) (fun u S' => ∃ (ev1 : Value), ∃ (eg1 : List Chunk), ∃ (ev2 : Value), ∃ (eg2 : List Chunk), ∃ (ev3 : Value), ∃ (eg3 : List Chunk), .tuple #[.string ⟨(rc1 : Str).toArray⟩, .int .i64 rc2, .int .i64 rc3] = u ∧ S' = [[(b1, .cells (Engine.enc (ev1) (ev2) (ev3) rz1).toArray 187 (0, 0))], eg1, eg2, eg3] ++ [C] ∧ Own rStr ev1 rz1.line_ eg1 ∧ Own rInt ev2 rz1.sum eg2 ∧ Own rInt ev3 rz1.nxt eg3) := by
  refine fn_entry (args := [.pointer (some ⟨b1, 0, none⟩), .string ⟨(base : Str).toArray⟩, .string ⟨(ours : Str).toArray⟩, .string ⟨(theirs : Str).toArray⟩]) Tryz.func228 rfl Tryz.ntmps228 rfl (fun w0 => ?_)
  refine c_seq ?_
  refine c_region ?_
  refine o_L (y_assign rfl) rfl rfl ?_
  refine o_L (y_assign rfl) rfl rfl ?_
  refine o_L (y_assign rfl) rfl rfl ?_
  refine o_nil0 rfl ?_
  refine c_seq ?_
  refine c_seq ?_
  refine c_joinP (n := 0) (fun sh G => sh = [(33, .bool (((decide ((1024 : Int) < (base.length : Int))) || (decide ((1024 : Int) < (ours.length : Int)))) || (decide ((1024 : Int) < (theirs.length : Int)))))] ∧ G = []) Sel.all' .z (fun _ _ h => h) ?_ ?_
  · skip
    refine c_region ?_
    refine o_T (y_move rfl) rfl ?_
    refine o_T (y_slen Tryz.underlying9 rfl) rfl ?_
    refine o_T (y_gtr rfl rfl) rfl ?_
    refine o_T (y_move rfl) rfl ?_
    refine o_split 24 rfl (fun h1 => ?_) (fun h1 => ?_)
    · skip
      refine o_pass rfl rfl rfl rfl rfl ?_
      refine o_pass rfl rfl rfl rfl rfl ?_
      refine o_pass rfl rfl rfl rfl rfl ?_
      refine o_T (y_pickT rfl rfl) rfl ?_
      refine o_T (y_move rfl) rfl ?_
      refine o_pass rfl rfl rfl rfl rfl ?_
      refine o_pass rfl rfl rfl rfl rfl ?_
      refine o_pass rfl rfl rfl rfl rfl ?_
      refine o_T (y_pickT rfl rfl) rfl ?_
      refine o_nil1 33 rfl rfl ?_
      refine ⟨_, _, ⟨rfl, rfl⟩, ⟨by first | rfl | exact gtb rfl (by simp only [h1, Bool.true_and, Bool.false_and, Bool.true_or, Bool.false_or, Bool.and_true, Bool.and_false, Bool.or_true, Bool.or_false, Bool.not_true, Bool.not_false]), trivial⟩, ⟨rfl, rfl⟩, _, (s_take (s_take (s_take (s_take (s_take s_nil)))))⟩
    · skip
      refine o_take rfl rfl rfl ?_
      refine o_T (y_move rfl) rfl ?_
      refine o_take rfl rfl rfl ?_
      refine o_T (y_slen Tryz.underlying9 rfl) rfl ?_
      refine o_take rfl rfl rfl ?_
      refine o_T (y_gtr rfl rfl) rfl ?_
      refine o_T (y_pickF rfl rfl) rfl ?_
      refine o_T (y_move rfl) rfl ?_
      refine o_split 29 rfl (fun h2 => ?_) (fun h2 => ?_)
      · skip
        refine o_pass rfl rfl rfl rfl rfl ?_
        refine o_pass rfl rfl rfl rfl rfl ?_
        refine o_pass rfl rfl rfl rfl rfl ?_
        refine o_T (y_pickT rfl rfl) rfl ?_
        refine o_nil1 33 rfl rfl ?_
        refine ⟨_, _, ⟨rfl, rfl⟩, ⟨by first | rfl | exact gtb rfl (by simp only [h1, h2, Bool.true_and, Bool.false_and, Bool.true_or, Bool.false_or, Bool.and_true, Bool.and_false, Bool.or_true, Bool.or_false, Bool.not_true, Bool.not_false]), trivial⟩, ⟨rfl, rfl⟩, _, (s_take (s_take (s_take (s_take (s_take s_nil)))))⟩
      · skip
        refine o_take rfl rfl rfl ?_
        refine o_T (y_move rfl) rfl ?_
        refine o_take rfl rfl rfl ?_
        refine o_T (y_slen Tryz.underlying9 rfl) rfl ?_
        refine o_take rfl rfl rfl ?_
        refine o_T (y_gtr rfl rfl) rfl ?_
        refine o_T (y_pickF rfl rfl) rfl ?_
        refine o_nil1 33 rfl rfl ?_
        refine ⟨_, _, ⟨rfl, rfl⟩, ⟨by first | rfl | exact gtb rfl (by simp only [h1, h2, Bool.true_and, Bool.false_and, Bool.true_or, Bool.false_or, Bool.and_true, Bool.and_false, Bool.or_true, Bool.or_false, Bool.not_true, Bool.not_false]), trivial⟩, ⟨rfl, rfl⟩, _, (s_take (s_take (s_take (s_take (s_take s_nil)))))⟩
  · rintro sh G ⟨rfl, rfl⟩
    refine c_cond rfl (fun h3 => ?_) (fun h3 => ?_)
    · have hm := cd_t h3 hm
      refine c_seq ?_
      refine c_region ?_
      refine o_L (y_assign rfl) rfl rfl ?_
      refine o_L (y_assign rfl) rfl rfl ?_
      refine o_L (y_assign rfl) rfl rfl ?_
      refine o_nil0 rfl ?_
      refine c_ret ?_
      obtain ⟨rfl, rfl, rfl, rfl⟩ := pr4 hm
      refine fun aX wX heX hsX => ret3 Tryz.results228 heX rfl rfl rfl (s_take (s_take (s_take (s_take (s_take s_nil))))) ?_
      exact ⟨v1, _, v2, _, v3, _, rfl, rfl, ho1, ho2, ho3⟩
    · have hm := cd_f h3 hm
      refine c_skip ?_
      refine c_seq ?_
      refine c_region ?_
      refine o_T (y_build st_285 rfl fbU0) rfl ?_
      refine o_box rfl rfl rfl rfl (fun b2 => ?_)
      have ho4 : Own rStr (.slice none 0 0) [] [] := Own.nil
      refine o_emp ?_
      have ho5 : Own rStr (.slice none 0 0) [] [] := Own.nil
      refine o_emp ?_
      have ho6 : Own rStr (.slice none 0 0) [] [] := Own.nil
      refine o_emp ?_
      have ho7 : Own rInt (.slice none 0 0) [] [] := Own.nil
      refine o_emp ?_
      have ho8 : Own rInt (.slice none 0 0) [] [] := Own.nil
      refine o_emp ?_
      have ho9 : Own rInt (.slice none 0 0) [] [] := Own.nil
      refine o_emp ?_
      refine o_L (y_assign rfl) rfl rfl ?_
      refine o_nil0 rfl ?_
      refine c_seq ?_
      refine c_region ?_
      refine o_T (y_move rfl) rfl ?_
      refine o_T (y_move rfl) rfl ?_
      obtain ⟨l1, hx1, hm⟩ := bd1 hm
      refine o_callC en_185 rfl s_nil (t185 hx1) rfl (fun u1 S1 hR1 => ?_)
      obtain ⟨v4, g4, rfl, rfl, ho10⟩ := hR1
      refine o_rest ?_
      refine o_T (y_nilck rfl) rfl ?_
      refine o_T (y_fa fl_285_0 rfl) rfl ?_
      obtain ⟨z1, hn1, hm⟩ := nm_s hm
      have ho11 := ho10.to (l' := z1.b) (by subst hn1; rfl)
      have ho12 := ho5.to (l' := z1.o) (by subst hn1; rfl)
      have ho13 := ho6.to (l' := z1.t) (by subst hn1; rfl)
      have ho14 := ho7.to (l' := z1.nb) (by subst hn1; rfl)
      have ho15 := ho8.to (l' := z1.no) (by subst hn1; rfl)
      have ho16 := ho9.to (l' := z1.nt) (by subst hn1; rfl)
      refine o_stN one_185 rfl rfl ho10.pl (Upd.z Texts.u_b) (rs (rs (rs (rs (rs (rs (rs r0))))))) (show (Texts.enc (v4) ((.slice none 0 0)) ((.slice none 0 0)) ((.slice none 0 0)) ((.slice none 0 0)) ((.slice none 0 0)) z1) = _ from by subst hn1; rfl) ?_
      refine o_nil0 rfl ?_
      refine c_seq ?_
      refine c_region ?_
      refine o_T (y_move rfl) rfl ?_
      refine o_T (y_move rfl) rfl ?_
      obtain ⟨l2, hx2, hm⟩ := bd1 hm
      refine o_callC en_185 rfl s_nil (t185 hx2) rfl (fun u2 S2 hR2 => ?_)
      obtain ⟨v5, g5, rfl, rfl, ho17⟩ := hR2
      refine o_rest ?_
      refine o_T (y_nilck rfl) rfl ?_
      refine o_T (y_fa fl_285_1 rfl) rfl ?_
      obtain ⟨z2, hn2, hm⟩ := nm_s hm
      have ho18 := ho11.to (l' := z2.b) (by subst hn2; rfl)
      have ho19 := ho17.to (l' := z2.o) (by subst hn2; rfl)
      have ho20 := ho13.to (l' := z2.t) (by subst hn2; rfl)
      have ho21 := ho14.to (l' := z2.nb) (by subst hn2; rfl)
      have ho22 := ho15.to (l' := z2.no) (by subst hn2; rfl)
      have ho23 := ho16.to (l' := z2.nt) (by subst hn2; rfl)
      refine o_stN one_185 rfl rfl ho17.pl (Upd.z Texts.u_o) (rs (rs (rs (rs (rs (rs (rs (rs r0)))))))) (show (Texts.enc (v4) (v5) ((.slice none 0 0)) ((.slice none 0 0)) ((.slice none 0 0)) ((.slice none 0 0)) z2) = _ from by subst hn2; rfl) ?_
      refine o_nil0 rfl ?_
      refine c_seq ?_
      refine c_region ?_
      refine o_T (y_move rfl) rfl ?_
      refine o_T (y_move rfl) rfl ?_
      obtain ⟨l3, hx3, hm⟩ := bd1 hm
      refine o_callC en_185 rfl s_nil (t185 hx3) rfl (fun u3 S3 hR3 => ?_)
      obtain ⟨v6, g6, rfl, rfl, ho24⟩ := hR3
      refine o_rest ?_
      refine o_T (y_nilck rfl) rfl ?_
      refine o_T (y_fa fl_285_2 rfl) rfl ?_
      obtain ⟨z3, hn3, hm⟩ := nm_s hm
      have ho25 := ho18.to (l' := z3.b) (by subst hn3; rfl)
      have ho26 := ho19.to (l' := z3.o) (by subst hn3; rfl)
      have ho27 := ho24.to (l' := z3.t) (by subst hn3; rfl)
      have ho28 := ho21.to (l' := z3.nb) (by subst hn3; rfl)
      have ho29 := ho22.to (l' := z3.no) (by subst hn3; rfl)
      have ho30 := ho23.to (l' := z3.nt) (by subst hn3; rfl)
      refine o_stN one_185 rfl rfl ho24.pl (Upd.z Texts.u_t) (rs (rs (rs (rs (rs (rs (rs (rs (rs r0))))))))) (show (Texts.enc (v4) (v5) (v6) ((.slice none 0 0)) ((.slice none 0 0)) ((.slice none 0 0)) z3) = _ from by subst hn3; rfl) ?_
      refine o_nil0 rfl ?_
      refine c_seq ?_
      refine c_region ?_
      refine o_T (y_move rfl) rfl ?_
      obtain ⟨z4, hx4, hm⟩ := bd1 hm
      refine o_callC en_253 rfl (s_skip (s_skip (s_skip (s_skip (s_skip (s_skip (s_skip (s_skip (s_skip (s_skip (s_take (s_take (s_take (s_take s_nil)))))))))))))) (t253 ho1 ho2 ho3 hx4) rfl (fun u4 S4 hR4 => ?_)
      obtain ⟨v7, g7, v8, g8, v9, g9, rfl, rfl, ho31, ho32, ho33⟩ := hR4
      refine o_rest ?_
      refine o_nil0 rfl ?_
      refine c_seq ?_
      refine c_region ?_
      refine o_T (y_move rfl) rfl ?_
      refine o_T (y_move rfl) rfl ?_
      refine o_T (y_move rfl) rfl ?_
      refine o_T (y_nilck rfl) rfl ?_
      refine o_T (y_fa fl_285_0 rfl) rfl ?_
      refine o_ld one_185 rfl (ms (ms (ms (ms (ms (ms (ms (ms (ms (ms (ms (ms (ms m0))))))))))))) (At.got (At.refl.comp Texts.a_b)) rfl ?_
      obtain ⟨l4, z5, hx5, hm⟩ := bd2 hm
      refine o_callC en_254 rfl (s_take (s_take (s_take (s_take s_nil)))) (t254 ho31 ho32 ho33 (ho25.rd.mono (fun _ hz => (ms (ms (mg hz))))) hx5) rfl (fun u5 S5 hR5 => ?_)
      obtain ⟨v10, g10, v11, g11, v12, g12, v13, g13, rfl, rfl, ho34, ho35, ho36, ho37⟩ := hR5
      refine o_rest ?_
      refine o_T (y_nilck rfl) rfl ?_
      refine o_T (y_fa fl_285_3 rfl) rfl ?_
      obtain ⟨z6, hn4, hm⟩ := nm_s hm
      have ho38 := ho25.to (l' := z6.b) (by subst hn4; rfl)
      have ho39 := ho26.to (l' := z6.o) (by subst hn4; rfl)
      have ho40 := ho27.to (l' := z6.t) (by subst hn4; rfl)
      have ho41 := ho34.to (l' := z6.nb) (by subst hn4; rfl)
      have ho42 := ho29.to (l' := z6.no) (by subst hn4; rfl)
      have ho43 := ho30.to (l' := z6.nt) (by subst hn4; rfl)
      refine o_stN one_65 rfl rfl ho34.pl (Upd.z Texts.u_nb) (rs (rs (rs (rs (rs (rs (rs (rs (rs (rs (rs (rs (rs (rs r0)))))))))))))) (show (Texts.enc (v4) (v5) (v6) (v10) ((.slice none 0 0)) ((.slice none 0 0)) z6) = _ from by subst hn4; rfl) ?_
      refine o_nil0 rfl ?_
      refine c_seq ?_
      refine c_region ?_
      refine o_T (y_move rfl) rfl ?_
      refine o_T (y_move rfl) rfl ?_
      refine o_T (y_move rfl) rfl ?_
      refine o_T (y_nilck rfl) rfl ?_
      refine o_T (y_fa fl_285_1 rfl) rfl ?_
      refine o_ld one_185 rfl (ms (ms (ms (ms (ms (ms (ms (ms (ms (ms (ms (ms (ms (ms m0)))))))))))))) (At.got (At.refl.comp Texts.a_o)) rfl ?_
      obtain ⟨l5, z7, hx6, hm⟩ := bd2 hm
      refine o_callC en_254 rfl (s_take (s_take (s_take (s_take s_nil)))) (t254 ho35 ho36 ho37 (ho39.rd.mono (fun _ hz => (ms (ms (mg hz))))) hx6) rfl (fun u6 S6 hR6 => ?_)
      obtain ⟨v14, g14, v15, g15, v16, g16, v17, g17, rfl, rfl, ho44, ho45, ho46, ho47⟩ := hR6
      refine o_rest ?_
      refine o_T (y_nilck rfl) rfl ?_
      refine o_T (y_fa fl_285_4 rfl) rfl ?_
      obtain ⟨z8, hn5, hm⟩ := nm_s hm
      have ho48 := ho38.to (l' := z8.b) (by subst hn5; rfl)
      have ho49 := ho39.to (l' := z8.o) (by subst hn5; rfl)
      have ho50 := ho40.to (l' := z8.t) (by subst hn5; rfl)
      have ho51 := ho41.to (l' := z8.nb) (by subst hn5; rfl)
      have ho52 := ho44.to (l' := z8.no) (by subst hn5; rfl)
      have ho53 := ho43.to (l' := z8.nt) (by subst hn5; rfl)
      refine o_stN one_65 rfl rfl ho44.pl (Upd.z Texts.u_no) (rs (rs (rs (rs (rs (rs (rs (rs (rs (rs (rs (rs (rs (rs (rs r0))))))))))))))) (show (Texts.enc (v4) (v5) (v6) (v10) (v14) ((.slice none 0 0)) z8) = _ from by subst hn5; rfl) ?_
      refine o_nil0 rfl ?_
      refine c_seq ?_
      refine c_region ?_
      refine o_T (y_move rfl) rfl ?_
      refine o_T (y_move rfl) rfl ?_
      refine o_T (y_move rfl) rfl ?_
      refine o_T (y_nilck rfl) rfl ?_
      refine o_T (y_fa fl_285_2 rfl) rfl ?_
      refine o_ld one_185 rfl (ms (ms (ms (ms (ms (ms (ms (ms (ms (ms (ms (ms (ms (ms (ms m0))))))))))))))) (At.got (At.refl.comp Texts.a_t)) rfl ?_
      obtain ⟨l6, z9, hx7, hm⟩ := bd2 hm
      refine o_callC en_254 rfl (s_take (s_take (s_take (s_take s_nil)))) (t254 ho45 ho46 ho47 (ho50.rd.mono (fun _ hz => (ms (ms (mg hz))))) hx7) rfl (fun u7 S7 hR7 => ?_)
      obtain ⟨v18, g18, v19, g19, v20, g20, v21, g21, rfl, rfl, ho54, ho55, ho56, ho57⟩ := hR7
      refine o_rest ?_
      refine o_T (y_nilck rfl) rfl ?_
      refine o_T (y_fa fl_285_5 rfl) rfl ?_
      obtain ⟨z10, hn6, hm⟩ := nm_s hm
      have ho58 := ho48.to (l' := z10.b) (by subst hn6; rfl)
      have ho59 := ho49.to (l' := z10.o) (by subst hn6; rfl)
      have ho60 := ho50.to (l' := z10.t) (by subst hn6; rfl)
      have ho61 := ho51.to (l' := z10.nb) (by subst hn6; rfl)
      have ho62 := ho52.to (l' := z10.no) (by subst hn6; rfl)
      have ho63 := ho54.to (l' := z10.nt) (by subst hn6; rfl)
      refine o_stN one_65 rfl rfl ho54.pl (Upd.z Texts.u_nt) (rs (rs (rs (rs (rs (rs (rs (rs (rs (rs (rs (rs (rs (rs (rs (rs r0)))))))))))))))) (show (Texts.enc (v4) (v5) (v6) (v10) (v14) (v18) z10) = _ from by subst hn6; rfl) ?_
      refine o_nil0 rfl ?_
      refine c_seq ?_
      refine c_draw #[true, true, true, true, true, true, true, true, false, true] rfl (n := 10) rfl ?_
      refine d_T 0 rfl sb_228_11_0 rfl (y_move rfl) rfl ?_
      refine d_T 1 rfl sb_228_11_1 rfl (y_nilck rfl) rfl ?_
      refine d_T 2 rfl sb_228_11_2 rfl (y_fa fl_285_3 rfl) rfl ?_
      refine d_ld 3 rfl sb_228_11_3 one_65 rfl (fun x hx => hx) (ms (ms (ms (ms (ms (ms (ms (ms (ms (ms (ms (ms (ms (ms (ms (ms m0)))))))))))))))) (At.got (At.refl.comp Texts.a_nb)) rfl ?_
      refine d_T 4 rfl sb_228_11_4 rfl (y_move rfl) rfl ?_
      refine d_T 5 rfl sb_228_11_5 rfl (y_nilck rfl) rfl ?_
      refine d_T 6 rfl sb_228_11_6 rfl (y_fa fl_285_4 rfl) rfl ?_
      refine d_ld 7 rfl sb_228_11_7 one_65 rfl (fun x hx => hx) (ms (ms (ms (ms (ms (ms (ms (ms (ms (ms (ms (ms (ms (ms (ms (ms m0)))))))))))))))) (At.got (At.refl.comp Texts.a_no)) rfl ?_
      refine d_hard 8 rfl sb_228_11_8 ?_
      obtain ⟨l7, hx8, hm⟩ := bd1 hm
      refine o_callC en_255 rfl s_nil (t255 (ho61.rd.mono (fun _ hz => (ms (ms (ms (ms (ms (ms (mg hz))))))))) (ho62.rd.mono (fun _ hz => (ms (ms (ms (ms (ms (mg hz)))))))) hx8) rfl (fun u8 S8 hR8 => ?_)
      obtain ⟨v22, g22, rfl, rfl, ho64⟩ := hR8
      refine o_rest ?_
      refine o_stop (fun h => nomatch h) ?_
      refine d_L 9 rfl sb_228_11_9 rfl (y_assign rfl) rfl rfl ?_
      refine d_nil0 sb_228_11_10 rfl ?_
      refine c_seq ?_
      refine c_draw #[true, true, true, true, true, true, true, true, false, true] rfl (n := 10) rfl ?_
      refine d_T 0 rfl sb_228_12_0 rfl (y_move rfl) rfl ?_
      refine d_T 1 rfl sb_228_12_1 rfl (y_nilck rfl) rfl ?_
      refine d_T 2 rfl sb_228_12_2 rfl (y_fa fl_285_3 rfl) rfl ?_
      refine d_ld 3 rfl sb_228_12_3 one_65 rfl (fun x hx => hx) (ms (ms (ms (ms (ms (ms (ms (ms (ms (ms (ms (ms (ms (ms (ms (ms (ms m0))))))))))))))))) (At.got (At.refl.comp Texts.a_nb)) rfl ?_
      refine d_T 4 rfl sb_228_12_4 rfl (y_move rfl) rfl ?_
      refine d_T 5 rfl sb_228_12_5 rfl (y_nilck rfl) rfl ?_
      refine d_T 6 rfl sb_228_12_6 rfl (y_fa fl_285_5 rfl) rfl ?_
      refine d_ld 7 rfl sb_228_12_7 one_65 rfl (fun x hx => hx) (ms (ms (ms (ms (ms (ms (ms (ms (ms (ms (ms (ms (ms (ms (ms (ms (ms m0))))))))))))))))) (At.got (At.refl.comp Texts.a_nt)) rfl ?_
      refine d_hard 8 rfl sb_228_12_8 ?_
      obtain ⟨l8, hx9, hm⟩ := bd1 hm
      refine o_callC en_255 rfl s_nil (t255 (ho61.rd.mono (fun _ hz => (ms (ms (ms (ms (ms (ms (ms (mg hz)))))))))) (ho63.rd.mono (fun _ hz => (ms (ms (ms (ms (ms (mg hz)))))))) hx9) rfl (fun u9 S9 hR9 => ?_)
      obtain ⟨v23, g23, rfl, rfl, ho65⟩ := hR9
      refine o_rest ?_
      refine o_stop (fun h => nomatch h) ?_
      refine d_L 9 rfl sb_228_12_9 rfl (y_assign rfl) rfl rfl ?_
      refine d_nil0 sb_228_12_10 rfl ?_
      refine c_seq ?_
      refine c_region ?_
      refine o_T (y_move rfl) rfl ?_
      refine o_T (y_slen Tryz.underlying9 rfl) rfl ?_
      obtain ⟨l9, hx10, hm⟩ := bd hm
      refine o_mkR (R := rByte) (a := 0) sz_81 rfl rfl rfl rfl rfl hx10 rfl (fun v24 g24 ho66 => ?_)
      refine o_L (y_assign rfl) rfl rfl ?_
      refine o_nil0 rfl ?_
      refine c_seq ?_
      refine c_region ?_
      refine o_L (y_assign rfl) rfl rfl ?_
      refine o_nil0 rfl ?_
      refine c_seq ?_
      refine c_region ?_
      refine o_L (y_assign rfl) rfl rfl ?_
      refine o_nil0 rfl ?_
      refine c_seq ?_
      refine c_region ?_
      refine o_L (y_assign rfl) rfl rfl ?_
      refine o_nil0 rfl ?_
      refine c_seq ?_
      refine c_region ?_
      refine o_L (y_assign rfl) rfl rfl ?_
      refine o_nil0 rfl ?_
      refine c_seq ?_
      refine c_region ?_
      refine o_L (y_assign rfl) rfl rfl ?_
      refine o_nil0 rfl ?_
      refine c_seq ?_
      refine c_seq ?_
      refine c_region ?_
      refine o_L (y_assign rfl) rfl rfl ?_
      refine o_nil0 rfl ?_
      obtain ⟨l11, c7, c8, c9, c10, c11, c12, hj1, hm⟩ := bd7 hm
      refine c_joinP (n := 1) (fun sh G => ∃ (v26 : Value), ∃ (g26 : List Chunk), sh = [(14, v26), (15, .int .i64 c7), (16, .int .i64 c8), (17, .int .i64 c9), (18, .int .i64 c10), (19, .int .i64 c11), (20, .int .i64 c12)] ∧ G = [g26] ∧ Own rByte v26 l11 g26) (s_take (s_take (s_take (s_take (s_take (s_take (s_take (s_take (s_take (s_take (s_take (s_take (s_take (s_skip (s_skip (s_skip (s_skip (s_skip (s_skip (s_take (s_take s_nil))))))))))))))))))))) (.s .z) (fun _ _ h => h) ?_ ?_
      · skip
        refine c_block ?_
        refine c_loopP (n := 1) (fun mm sh G => ∃ (l10 : List UInt8), ∃ (c1 : Int), ∃ (c2 : Int), ∃ (c3 : Int), ∃ (c4 : Int), ∃ (c5 : Int), ∃ (c6 : Int), ∃ (v25 : Value), ∃ (g25 : List Chunk), sh = [(14, v25), (15, .int .i64 c1), (16, .int .i64 c2), (17, .int .i64 c3), (18, .int .i64 c4), (19, .int .i64 c5), (20, .int .i64 c6)] ∧ G = [g25] ∧ m228_w1 n z10 l7 l8 mm l10 c1 c2 c3 c4 c5 c6 = some (l11, c7, c8, c9, c10, c11, c12) ∧ Own rByte v25 l10 g25) n (s_take (s_take (s_take (s_take (s_take (s_take (s_take (s_take (s_take (s_take (s_take (s_take (s_take (s_skip (s_skip (s_skip (s_skip (s_skip (s_skip (s_take (s_take s_nil))))))))))))))))))))) (.s .z) ⟨_, _, ⟨_, _, _, _, _, _, _, v24, _, rfl, rfl, hj1, ho66⟩, ⟨rfl, rfl, rfl, rfl, rfl, rfl, rfl, trivial⟩, _, (s_take (s_take (s_take (s_take (s_take (s_take (s_take (s_take (s_take (s_take (s_take (s_take (s_take (s_skip (s_skip (s_skip (s_skip (s_skip (s_skip (s_take (s_take s_nil)))))))))))))))))))))⟩ ?_
        rintro mm sh G ⟨l10, c1, c2, c3, c4, c5, c6, v25, g25, rfl, rfl, hm, ho67⟩
        obtain ⟨mm1, rfl, hm⟩ := it7_s hm
        refine c_seq ?_
        refine c_seq ?_
        refine c_region ?_
        refine o_T (y_move rfl) rfl ?_
        refine o_T (y_move rfl) rfl ?_
        refine o_T (y_nilck rfl) rfl ?_
        refine o_T (y_fa fl_285_0 rfl) rfl ?_
        refine o_ld one_185 rfl (ms (ms (ms (ms (ms (ms (ms (ms (ms (ms (ms (ms (ms m0))))))))))))) (At.got (At.refl.comp Texts.a_b)) rfl ?_
        refine o_T (y_lenR ho58.rd Tryz.underlying185 rfl) rfl ?_
        refine o_T (y_lss rfl rfl) rfl ?_
        refine o_nil1 107 rfl rfl ?_
        refine c_cond rfl (fun h4 => ?_) (fun h4 => ?_)
        · have hm := cd_t h4 hm
          refine c_skip ?_
          refine c_seq ?_
          refine c_block ?_
          refine c_seq ?_
          obtain ⟨c13, hj2, hm⟩ := bd1 hm
          refine c_joinP (n := 0) (fun sh G => sh = [(121, .bool c13)] ∧ G = []) Sel.all' .z (fun _ _ h => h) ?_ ?_
          · have hm := hj2
            refine c_region ?_
            refine o_T (y_move rfl) rfl ?_
            refine o_T (y_move rfl) rfl ?_
            obtain ⟨x1, hx11, hm⟩ := bd hm
            obtain ⟨b3, w1, cs1, y1, z11, vs1, hc1, ha1, hr1, hy1⟩ := ho64.rd.ix hx11
            obtain rfl : vs1 = (encI x1) := hr1
            refine o_T (hy1 sl_65 rfl rfl rfl) rfl ?_
            refine o_ld one_3 rfl (ms (ms (mg hc1))) (At.getA (ha1)) rfl ?_
            refine o_T (y_geq rfl rfl) rfl ?_
            refine o_T (y_move rfl) rfl ?_
            refine o_split 115 rfl (fun h5 => ?_) (fun h5 => ?_)
            · have hm := cd_t h5 hm
              refine o_take rfl rfl rfl ?_
              refine o_T (y_move rfl) rfl ?_
              refine o_take rfl rfl rfl ?_
              refine o_T (y_move rfl) rfl ?_
              refine o_take rfl rfl rfl ?_
              obtain ⟨x2, hx12, hm⟩ := bd hm
              obtain ⟨b4, w2, cs2, y2, z12, vs2, hc2, ha2, hr2, hy2⟩ := ho65.rd.ix hx12
              obtain rfl : vs2 = (encI x2) := hr2
              refine o_T (hy2 sl_65 rfl rfl rfl) rfl ?_
              refine o_take rfl rfl rfl ?_
              refine o_ld one_3 rfl (ms (mg hc2)) (At.getA (ha2)) rfl ?_
              refine o_take rfl rfl rfl ?_
              refine o_T (y_geq rfl rfl) rfl ?_
              refine o_T (y_pickT rfl rfl) rfl ?_
              refine o_nil1 121 rfl rfl ?_
              obtain rfl := p1 hm
              exact ⟨_, _, ⟨rfl, rfl⟩, ⟨rfl, trivial⟩, ⟨rfl, rfl⟩, _, (s_take (s_take (s_take (s_take (s_take (s_take (s_take (s_take (s_take (s_take (s_take (s_take (s_take (s_take (s_take s_nil)))))))))))))))⟩
            · have hm := cd_f h5 hm
              refine o_pass rfl rfl rfl rfl rfl ?_
              refine o_pass rfl rfl rfl rfl rfl ?_
              refine o_pass rfl rfl rfl rfl rfl ?_
              refine o_pass rfl rfl rfl rfl rfl ?_
              refine o_pass rfl rfl rfl rfl rfl ?_
              refine o_T (y_pickF rfl rfl) rfl ?_
              refine o_nil1 121 rfl rfl ?_
              obtain rfl := p1 hm
              exact ⟨_, _, ⟨rfl, rfl⟩, ⟨rfl, trivial⟩, ⟨rfl, rfl⟩, _, (s_take (s_take (s_take (s_take (s_take (s_take (s_take (s_take (s_take (s_take (s_take (s_take (s_take (s_take (s_take s_nil)))))))))))))))⟩
          · rintro sh G ⟨rfl, rfl⟩
            refine c_cond rfl (fun h6 => ?_) (fun h6 => ?_)
            · have hm := cd_t h6 hm
              refine c_seq ?_
              refine c_draw #[true, true, true, true, true, true, true, true, true, true, true, true, true, true, false, true, true, true, true, true] rfl (n := 20) rfl ?_
              refine d_T 0 rfl sb_228_23_0 rfl (y_move rfl) rfl ?_
              refine d_T 1 rfl sb_228_23_1 rfl (y_move rfl) rfl ?_
              refine d_T 2 rfl sb_228_23_2 rfl (y_move rfl) rfl ?_
              refine d_T 3 rfl sb_228_23_3 rfl (y_move rfl) rfl ?_
              refine d_T 4 rfl sb_228_23_4 rfl (y_move rfl) rfl ?_
              refine d_T 5 rfl sb_228_23_5 rfl (y_move rfl) rfl ?_
              refine d_T 6 rfl sb_228_23_6 rfl (y_move rfl) rfl ?_
              obtain ⟨x3, hx13, hm⟩ := bd hm
              obtain ⟨b5, w3, cs3, y3, z13, vs3, hc3, ha3, hr3, hy3⟩ := ho64.rd.ix hx13
              obtain rfl : vs3 = (encI x3) := hr3
              refine d_T 7 rfl sb_228_23_7 rfl (hy3 sl_65 rfl rfl rfl) rfl ?_
              refine d_ld 8 rfl sb_228_23_8 one_3 rfl (fun x hx => hx) (ms (ms (mg hc3))) (At.getA (ha3)) rfl ?_
              refine d_T 9 rfl sb_228_23_9 rfl (y_move rfl) rfl ?_
              refine d_T 10 rfl sb_228_23_10 rfl (y_move rfl) rfl ?_
              refine d_T 11 rfl sb_228_23_11 rfl (y_move rfl) rfl ?_
              obtain ⟨x4, hx14, hm⟩ := bd hm
              obtain ⟨b6, w4, cs4, y4, z14, vs4, hc4, ha4, hr4, hy4⟩ := ho65.rd.ix hx14
              obtain rfl : vs4 = (encI x4) := hr4
              refine d_T 12 rfl sb_228_23_12 rfl (hy4 sl_65 rfl rfl rfl) rfl ?_
              refine d_ld 13 rfl sb_228_23_13 one_3 rfl (fun x hx => hx) (ms (mg hc4)) (At.getA (ha4)) rfl ?_
              refine d_hard 14 rfl sb_228_23_14 ?_
              obtain ⟨l12, c14, hx15, hm⟩ := bd2 hm
              refine o_callC en_280 rfl (s_get (ks (ks (ks (ks (ks (ks (ks (ks (ks (ks (ks (ks (ks k0))))))))))))) (s_get (ks (ks (ks (ks (ks (ks (ks (ks (ks (ks (ks (ks k0)))))))))))) (s_get (ks (ks (ks (ks (ks (ks (ks (ks (ks (ks (ks k0))))))))))) (s_get (ks (ks (ks (ks (ks (ks (ks (ks (ks (ks k0)))))))))) (s_get (ks (ks (ks (ks (ks (ks (ks (ks (ks k0))))))))) (s_get (ks (ks (ks (ks (ks (ks (ks (ks k0)))))))) (s_get (ks (ks (ks (ks (ks (ks (ks k0))))))) (s_take s_nil)))))))) (t280 ho58 ho59 ho60 ho61 ho62 ho63 ho67 hx15) rfl (fun u10 S10 hR10 => ?_)
              obtain ⟨v27, g27, rfl, rfl, ho69⟩ := hR10
              refine o_rest ?_
              refine o_stop (fun h => nomatch h) ?_
              refine d_T 15 rfl sb_228_23_15 rfl (y_move rfl) rfl ?_
              refine d_T 16 rfl sb_228_23_16 rfl (y_extract rfl rfl) rfl ?_
              refine d_T 17 rfl sb_228_23_17 rfl (y_extract rfl rfl) rfl ?_
              refine d_L 18 rfl sb_228_23_18 rfl (y_assign rfl) rfl rfl ?_
              refine d_L 19 rfl sb_228_23_19 rfl (y_assign rfl) rfl rfl ?_
              refine d_nil0 sb_228_23_20 rfl ?_
              refine c_seq ?_
              refine c_region ?_
              refine o_T (y_move rfl) rfl ?_
              refine o_T (y_move rfl) rfl ?_
              refine o_T (y_nilck rfl) rfl ?_
              refine o_T (y_fa fl_285_0 rfl) rfl ?_
              refine o_ld one_185 rfl m0 (At.got (At.refl.comp Texts.a_b)) rfl ?_
              refine o_T (y_move rfl) rfl ?_
              obtain ⟨x5, hx16, hm⟩ := bd hm
              obtain ⟨b7, w5, cs5, y5, z15, vs5, hc5, ha5, hr5, hy5⟩ := ho58.rd.ix hx16
              obtain rfl : vs5 = (encS x5) := hr5
              refine o_T (hy5 sl_185 rfl rfl rfl) rfl ?_
              refine o_ld one_9 rfl (ms (mg hc5)) (At.getA (ha5)) rfl ?_
              obtain ⟨l13, hx17, hm⟩ := bd1 hm
              refine o_callC en_281 rfl (s_skip (s_skip (s_skip (s_skip (s_skip (s_skip (s_skip (s_take s_nil)))))))) (t281 ho69 hx17) rfl (fun u11 S11 hR11 => ?_)
              obtain ⟨v28, g28, rfl, rfl, ho70⟩ := hR11
              refine o_rest ?_
              refine o_L (y_assign rfl) rfl rfl ?_
              refine o_nil0 rfl ?_
              refine c_seq ?_
              refine c_region ?_
              refine o_T (y_move rfl) rfl ?_
              refine o_T (y_move rfl) rfl ?_
              refine o_T (y_add rfl rfl rfl) rfl ?_
              refine o_L (y_assign rfl) rfl rfl ?_
              refine o_nil0 rfl ?_
              refine c_seq ?_
              refine c_region ?_
              refine o_T (y_move rfl) rfl ?_
              refine o_T (y_add rfl rfl rfl) rfl ?_
              refine o_L (y_assign rfl) rfl rfl ?_
              refine o_nil0 rfl ?_
              refine c_seq ?_
              refine c_region ?_
              refine o_T (y_move rfl) rfl ?_
              refine o_T (y_move rfl) rfl ?_
              obtain ⟨x6, hx18, hm⟩ := bd hm
              obtain ⟨b8, w6, cs6, y6, z16, vs6, hc6, ha6, hr6, hy6⟩ := ho64.rd.ix hx18
              obtain rfl : vs6 = (encI x6) := hr6
              refine o_T (hy6 sl_65 rfl rfl rfl) rfl ?_
              refine o_ld one_3 rfl (ms (ms (ms (ms (ms (ms (ms (ms (ms (mg hc6)))))))))) (At.getA (ha6)) rfl ?_
              refine o_T (y_add rfl rfl rfl) rfl ?_
              refine o_L (y_assign rfl) rfl rfl ?_
              refine o_nil0 rfl ?_
              refine c_region ?_
              refine o_T (y_move rfl) rfl ?_
              refine o_T (y_move rfl) rfl ?_
              obtain ⟨x7, hx19, hm⟩ := bd hm
              obtain ⟨b9, w7, cs7, y7, z17, vs7, hc7, ha7, hr7, hy7⟩ := ho65.rd.ix hx19
              obtain rfl : vs7 = (encI x7) := hr7
              refine o_T (hy7 sl_65 rfl rfl rfl) rfl ?_
              refine o_ld one_3 rfl (ms (ms (ms (ms (ms (ms (ms (ms (mg hc7))))))))) (At.getA (ha7)) rfl ?_
              refine o_T (y_add rfl rfl rfl) rfl ?_
              refine o_L (y_assign rfl) rfl rfl ?_
              refine o_nil0 rfl ?_
              refine c_region ?_
              refine o_T (y_move rfl) rfl ?_
              refine o_T (y_add rfl rfl rfl) rfl ?_
              refine o_L (y_assign rfl) rfl rfl ?_
              refine o_nil0 rfl ?_
              exact ⟨mm1, Nat.lt_succ_self _, _, _, ⟨_, _, _, _, _, _, _, v28, _, rfl, rfl, hm, ho70⟩, ⟨rfl, rfl, rfl, rfl, rfl, rfl, rfl, trivial⟩, ⟨rfl, rfl⟩, _, (s_take (s_get (ks (ks (ks (ks (ks (ks (ks k0))))))) (s_get (ks (ks (ks (ks (ks (ks (ks k0))))))) (s_get (ks (ks (ks (ks (ks (ks (ks k0))))))) (s_get (ks (ks (ks (ks (ks (ks (ks k0))))))) (s_get (ks (ks (ks (ks (ks (ks (ks k0))))))) (s_get (ks (ks (ks (ks (ks (ks (ks k0))))))) (s_get (ks (ks (ks (ks (ks (ks k0)))))) (s_get (ks (ks (ks (ks (ks k0))))) (s_get (ks (ks (ks (ks k0)))) (s_get (ks (ks (ks k0))) (s_get (ks (ks k0)) (s_get (ks k0) (s_take (s_take s_nil)))))))))))))))⟩
            · have hm := cd_f h6 hm
              refine c_skip ?_
              refine c_region ?_
              refine o_T (y_move rfl) rfl ?_
              refine o_T (y_add rfl rfl rfl) rfl ?_
              refine o_L (y_assign rfl) rfl rfl ?_
              refine o_nil0 rfl ?_
              exact ⟨mm1, Nat.lt_succ_self _, _, _, ⟨_, _, _, _, _, _, _, v25, _, rfl, rfl, hm, ho67⟩, ⟨rfl, rfl, rfl, rfl, rfl, rfl, rfl, trivial⟩, ⟨rfl, rfl⟩, _, (s_take (s_take (s_take (s_take (s_take (s_take (s_take (s_take (s_take (s_take (s_take (s_take (s_take (s_take (s_take s_nil)))))))))))))))⟩
        · have hm := cd_f h4 hm
          refine c_exit ?_
          obtain ⟨rfl, rfl, rfl, rfl, rfl, rfl, rfl⟩ := pr7 hm
          exact ⟨_, _, ⟨v25, _, rfl, rfl, ho67⟩, ⟨rfl, rfl, rfl, rfl, rfl, rfl, rfl, trivial⟩, ⟨rfl, rfl⟩, _, (s_take (s_take (s_take (s_take (s_take (s_take (s_take (s_take (s_take (s_take (s_take (s_take (s_take (s_take (s_take s_nil)))))))))))))))⟩
      · rintro sh G ⟨v26, g26, rfl, rfl, ho68⟩
        refine c_seq ?_
        refine c_draw #[true, true, true, true, true, true, true, true, true, true, true, true, true, true, true, true, true, true, true, true, false, true, true, true, true, true] rfl (n := 26) rfl ?_
        refine d_T 0 rfl sb_228_29_0 rfl (y_move rfl) rfl ?_
        refine d_T 1 rfl sb_228_29_1 rfl (y_move rfl) rfl ?_
        refine d_T 2 rfl sb_228_29_2 rfl (y_move rfl) rfl ?_
        refine d_T 3 rfl sb_228_29_3 rfl (y_move rfl) rfl ?_
        refine d_T 4 rfl sb_228_29_4 rfl (y_nilck rfl) rfl ?_
        refine d_T 5 rfl sb_228_29_5 rfl (y_fa fl_285_0 rfl) rfl ?_
        refine d_ld 6 rfl sb_228_29_6 one_185 rfl (fun x hx => hx) (ms (ms (ms (ms (ms (ms (ms (ms (ms (ms (ms (ms (ms m0))))))))))))) (At.got (At.refl.comp Texts.a_b)) rfl ?_
        refine d_T 7 rfl sb_228_29_7 rfl (y_lenR ho58.rd Tryz.underlying185 rfl) rfl ?_
        refine d_T 8 rfl sb_228_29_8 rfl (y_move rfl) rfl ?_
        refine d_T 9 rfl sb_228_29_9 rfl (y_move rfl) rfl ?_
        refine d_T 10 rfl sb_228_29_10 rfl (y_nilck rfl) rfl ?_
        refine d_T 11 rfl sb_228_29_11 rfl (y_fa fl_285_1 rfl) rfl ?_
        refine d_ld 12 rfl sb_228_29_12 one_185 rfl (fun x hx => hx) (ms (ms (ms (ms (ms (ms (ms (ms (ms (ms (ms (ms (ms m0))))))))))))) (At.got (At.refl.comp Texts.a_o)) rfl ?_
        refine d_T 13 rfl sb_228_29_13 rfl (y_lenR ho59.rd Tryz.underlying185 rfl) rfl ?_
        refine d_T 14 rfl sb_228_29_14 rfl (y_move rfl) rfl ?_
        refine d_T 15 rfl sb_228_29_15 rfl (y_move rfl) rfl ?_
        refine d_T 16 rfl sb_228_29_16 rfl (y_nilck rfl) rfl ?_
        refine d_T 17 rfl sb_228_29_17 rfl (y_fa fl_285_2 rfl) rfl ?_
        refine d_ld 18 rfl sb_228_29_18 one_185 rfl (fun x hx => hx) (ms (ms (ms (ms (ms (ms (ms (ms (ms (ms (ms (ms (ms m0))))))))))))) (At.got (At.refl.comp Texts.a_t)) rfl ?_
        refine d_T 19 rfl sb_228_29_19 rfl (y_lenR ho60.rd Tryz.underlying185 rfl) rfl ?_
        refine d_hard 20 rfl sb_228_29_20 ?_
        obtain ⟨l14, c15, hx20, hm⟩ := bd2 hm
        refine o_callC en_280 rfl (s_get (ks (ks (ks (ks (ks (ks (ks (ks (ks (ks (ks (ks (ks k0))))))))))))) (s_get (ks (ks (ks (ks (ks (ks (ks (ks (ks (ks (ks (ks k0)))))))))))) (s_get (ks (ks (ks (ks (ks (ks (ks (ks (ks (ks (ks k0))))))))))) (s_get (ks (ks (ks (ks (ks (ks (ks (ks (ks (ks k0)))))))))) (s_get (ks (ks (ks (ks (ks (ks (ks (ks (ks k0))))))))) (s_get (ks (ks (ks (ks (ks (ks (ks (ks k0)))))))) (s_get (ks (ks (ks (ks (ks (ks (ks k0))))))) (s_take s_nil)))))))) (t280 ho58 ho59 ho60 ho61 ho62 ho63 ho68 hx20) rfl (fun u12 S12 hR12 => ?_)
        obtain ⟨v29, g29, rfl, rfl, ho71⟩ := hR12
        refine o_rest ?_
        refine o_stop (fun h => nomatch h) ?_
        refine d_T 21 rfl sb_228_29_21 rfl (y_move rfl) rfl ?_
        refine d_T 22 rfl sb_228_29_22 rfl (y_extract rfl rfl) rfl ?_
        refine d_T 23 rfl sb_228_29_23 rfl (y_extract rfl rfl) rfl ?_
        refine d_L 24 rfl sb_228_29_24 rfl (y_assign rfl) rfl rfl ?_
        refine d_L 25 rfl sb_228_29_25 rfl (y_assign rfl) rfl rfl ?_
        refine d_nil0 sb_228_29_26 rfl ?_
        refine c_seq ?_
        refine c_region ?_
        refine o_T (y_move rfl) rfl ?_
        refine o_b2s Tryz.underlying81 Tryz.underlying5 Tryz.underlying9 rfl ho71.rd (fun _ hz => (ms (ms (ms (ms (ms (ms (ms (mg hz))))))))) rfl ?_
        refine o_T (y_move rfl) rfl ?_
        refine o_T (y_move rfl) rfl ?_
        refine o_T (y_add rfl rfl rfl) rfl ?_
        refine o_L (y_assign rfl) rfl rfl ?_
        refine o_L (y_assign rfl) rfl rfl ?_
        refine o_L (y_assign rfl) rfl rfl ?_
        refine o_nil0 rfl ?_
        refine c_ret ?_
        obtain ⟨rfl, rfl, rfl, rfl⟩ := pr4 hm
        refine fun aX wX heX hsX => ret3 Tryz.results228 heX rfl rfl rfl (s_skip (s_skip (s_skip (s_skip (s_skip (s_skip (s_skip (s_skip (s_skip (s_skip (s_take (s_take (s_take (s_take (s_take s_nil))))))))))))))) ?_
        exact ⟨v19, _, v20, _, v21, _, rfl, rfl, ho55, ho56, ho57⟩
end Go.Proofs.Qxb6500350aGreat
