/- That the code is the program's (part 3). -/
import Derived.Test.YtbcbkjpfjifihaaGreatDoorJCode0
import Derived.Test.YtbcbkjpfjifihaaGreatDoorProg
import Derived.Test.YtbcbkjpfjifihaaGreatDoorAbC
import Derived.KernelRfl
set_option linter.unusedSectionVars false
set_option linter.unusedVariables false
set_option linter.unusedSimpArgs false
namespace J3
open Ab Go Go.Proofs
def cl2 : List Nat := [2, 5, 6, 7, 8, 9, 11, 13, 14, 15, 16, 17, 18, 20, 21, 22, 23, 24, 25, 26, 27, 29, 30, 32, 35, 36, 37, 38, 39, 40, 43, 44, 48, 50, 58, 59, 60, 61, 62, 63, 64, 65, 66, 67, 68, 69, 71, 75, 78, 79, 80, 81, 82, 83, 85, 86, 87, 88, 89, 90, 91, 92, 93, 94, 95, 98, 100, 101, 102, 104, 105, 106, 107, 108, 109, 111, 112, 113, 118, 119, 120, 121, 122, 124, 125, 127, 128, 129, 130, 131, 132, 133, 134, 135, 136, 137, 139, 141, 142, 145, 146, 147, 150, 151, 152, 155, 156, 182]
def kp2 : List Nat := []
theorem t7 : trFn Tryz.prog cl2 kp2 .closed [] Tryz.f7 = some f7 := by kernel_rfl
theorem e7 [Globs] : EntryOk Tryz.prog 7 (.code f7) := ⟨Tryz.f7, cl2, kp2, _, _, Tryz.func7, by kernel_rfl, t7⟩
theorem t15 : trFn Tryz.prog cl2 kp2 .closed [] Tryz.f15 = some f15 := by kernel_rfl
theorem e15 [Globs] : EntryOk Tryz.prog 15 (.code f15) := ⟨Tryz.f15, cl2, kp2, _, _, Tryz.func15, by kernel_rfl, t15⟩
theorem t21 : trFn Tryz.prog cl2 kp2 .closed [] Tryz.f21 = some f21 := by kernel_rfl
theorem e21 [Globs] : EntryOk Tryz.prog 21 (.code f21) := ⟨Tryz.f21, cl2, kp2, _, _, Tryz.func21, by kernel_rfl, t21⟩
theorem t25 : trFn Tryz.prog cl2 kp2 .closed [] Tryz.f25 = some f25 := by kernel_rfl
theorem e25 [Globs] : EntryOk Tryz.prog 25 (.code f25) := ⟨Tryz.f25, cl2, kp2, _, _, Tryz.func25, by kernel_rfl, t25⟩
theorem t32 : trGF Tryz.prog cl2 kp2 .closed [] [] 51 Tryz.f32 Tryz.f51 = some f32 := by kernel_rfl
theorem e32 [Globs] : EntryOk Tryz.prog 32 (.guard f32) := ⟨Tryz.f32, Tryz.f51, cl2, kp2, _, _, _, Tryz.func32, by kernel_rfl, Tryz.func51, by kernel_rfl, t32⟩
theorem t43 : trFn Tryz.prog cl2 kp2 .closed [] Tryz.f43 = some f43 := by kernel_rfl
theorem e43 [Globs] : EntryOk Tryz.prog 43 (.code f43) := ⟨Tryz.f43, cl2, kp2, _, _, Tryz.func43, by kernel_rfl, t43⟩
theorem t52 : trFn Tryz.prog cl2 kp2 .closed [] Tryz.f52 = some f52 := by kernel_rfl
theorem e52 [Globs] : EntryOk Tryz.prog 52 (.code f52) := ⟨Tryz.f52, cl2, kp2, _, _, Tryz.func52, by kernel_rfl, t52⟩
theorem t64 : trFn Tryz.prog cl2 kp2 .closed [] Tryz.f64 = some f64 := by kernel_rfl
theorem e64 [Globs] : EntryOk Tryz.prog 64 (.code f64) := ⟨Tryz.f64, cl2, kp2, _, _, Tryz.func64, by kernel_rfl, t64⟩
theorem t70 : trFn Tryz.prog cl2 kp2 .closed [] Tryz.f70 = some f70 := by kernel_rfl
theorem e70 [Globs] : EntryOk Tryz.prog 70 (.code f70) := ⟨Tryz.f70, cl2, kp2, _, _, Tryz.func70, by kernel_rfl, t70⟩
theorem t74 : trFn Tryz.prog cl2 kp2 .closed [[0, 2, 3, 4], [0, 2, 3, 4, 5, 46, 47]] Tryz.f74 = some f74 := by kernel_rfl
theorem e74 [Globs] : EntryOk Tryz.prog 74 (.code f74) := ⟨Tryz.f74, cl2, kp2, _, _, Tryz.func74, by kernel_rfl, t74⟩
theorem t82 : trFn Tryz.prog cl2 kp2 .closed [[0, 5, 6, 7]] Tryz.f82 = some f82 := by kernel_rfl
theorem e82 [Globs] : EntryOk Tryz.prog 82 (.code f82) := ⟨Tryz.f82, cl2, kp2, _, _, Tryz.func82, by kernel_rfl, t82⟩
theorem t88 : trFn Tryz.prog cl2 kp2 .closed [] Tryz.f88 = some f88 := by kernel_rfl
theorem e88 [Globs] : EntryOk Tryz.prog 88 (.code f88) := ⟨Tryz.f88, cl2, kp2, _, _, Tryz.func88, by kernel_rfl, t88⟩
theorem t92 : trFn Tryz.prog cl2 kp2 .closed [[0, 3]] Tryz.f92 = some f92 := by kernel_rfl
theorem e92 [Globs] : EntryOk Tryz.prog 92 (.code f92) := ⟨Tryz.f92, cl2, kp2, _, _, Tryz.func92, by kernel_rfl, t92⟩
theorem t96 : trFn Tryz.prog cl2 kp2 .closed [] Tryz.f96 = some f96 := by kernel_rfl
theorem e96 [Globs] : EntryOk Tryz.prog 96 (.code f96) := ⟨Tryz.f96, cl2, kp2, _, _, Tryz.func96, by kernel_rfl, t96⟩
theorem t103 : trFn Tryz.prog cl2 kp2 .closed [] Tryz.f103 = some f103 := by kernel_rfl
theorem e103 [Globs] : EntryOk Tryz.prog 103 (.code f103) := ⟨Tryz.f103, cl2, kp2, _, _, Tryz.func103, by kernel_rfl, t103⟩
theorem t108 : trFn Tryz.prog cl2 kp2 .closed [[0, 1]] Tryz.f108 = some f108 := by kernel_rfl
theorem e108 [Globs] : EntryOk Tryz.prog 108 (.code f108) := ⟨Tryz.f108, cl2, kp2, _, _, Tryz.func108, by kernel_rfl, t108⟩
theorem t122 : trFn Tryz.prog cl2 kp2 .closed [] Tryz.f122 = some f122 := by kernel_rfl
theorem e122 [Globs] : EntryOk Tryz.prog 122 (.code f122) := ⟨Tryz.f122, cl2, kp2, _, _, Tryz.func122, by kernel_rfl, t122⟩
theorem t128 : trFn Tryz.prog cl2 kp2 .closed [] Tryz.f128 = some f128 := by kernel_rfl
theorem e128 [Globs] : EntryOk Tryz.prog 128 (.code f128) := ⟨Tryz.f128, cl2, kp2, _, _, Tryz.func128, by kernel_rfl, t128⟩
theorem t142 : trFn Tryz.prog cl2 kp2 .closed [] Tryz.f142 = some f142 := by kernel_rfl
theorem e142 [Globs] : EntryOk Tryz.prog 142 (.code f142) := ⟨Tryz.f142, cl2, kp2, _, _, Tryz.func142, by kernel_rfl, t142⟩
end J3
