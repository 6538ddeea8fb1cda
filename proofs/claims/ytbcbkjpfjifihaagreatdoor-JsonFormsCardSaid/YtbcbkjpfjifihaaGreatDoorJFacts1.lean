/- That the code is the program's (part 2). -/
import Derived.Test.YtbcbkjpfjifihaaGreatDoorJCode0
import Derived.Test.YtbcbkjpfjifihaaGreatDoorProg
import Derived.Test.YtbcbkjpfjifihaaGreatDoorAbC
import Derived.KernelRfl
set_option linter.unusedSectionVars false
set_option linter.unusedVariables false
set_option linter.unusedSimpArgs false
namespace J3
open Ab Go Go.Proofs
def cl1 : List Nat := [2, 5, 6, 7, 8, 9, 11, 13, 14, 15, 16, 17, 18, 20, 21, 22, 23, 24, 25, 26, 27, 29, 30, 32, 35, 36, 37, 38, 39, 40, 43, 44, 48, 50, 58, 59, 60, 61, 62, 63, 64, 65, 66, 67, 68, 69, 71, 75, 78, 79, 80, 81, 82, 83, 85, 86, 87, 88, 89, 90, 91, 92, 93, 94, 95, 98, 100, 101, 102, 104, 105, 106, 107, 108, 109, 111, 112, 113, 118, 119, 120, 121, 122, 124, 125, 127, 128, 129, 130, 131, 132, 133, 134, 135, 136, 137, 139, 141, 142, 145, 146, 147, 150, 151, 152, 155, 156, 182]
def kp1 : List Nat := []
theorem t6 : trFn Tryz.prog cl1 kp1 .closed [] Tryz.f6 = some f6 := by kernel_rfl
theorem e6 [Globs] : EntryOk Tryz.prog 6 (.code f6) := ⟨Tryz.f6, cl1, kp1, _, _, Tryz.func6, by kernel_rfl, t6⟩
theorem t13 : trFn Tryz.prog cl1 kp1 .closed [] Tryz.f13 = some f13 := by kernel_rfl
theorem e13 [Globs] : EntryOk Tryz.prog 13 (.code f13) := ⟨Tryz.f13, cl1, kp1, _, _, Tryz.func13, by kernel_rfl, t13⟩
theorem t20 : trFn Tryz.prog cl1 kp1 .closed [[0, 3, 4]] Tryz.f20 = some f20 := by kernel_rfl
theorem e20 [Globs] : EntryOk Tryz.prog 20 (.code f20) := ⟨Tryz.f20, cl1, kp1, _, _, Tryz.func20, by kernel_rfl, t20⟩
theorem t24 : trFn Tryz.prog cl1 kp1 .closed [[0, 3, 4]] Tryz.f24 = some f24 := by kernel_rfl
theorem e24 [Globs] : EntryOk Tryz.prog 24 (.code f24) := ⟨Tryz.f24, cl1, kp1, _, _, Tryz.func24, by kernel_rfl, t24⟩
theorem t29 : trFn Tryz.prog cl1 kp1 .closed [] Tryz.f29 = some f29 := by kernel_rfl
theorem e29 [Globs] : EntryOk Tryz.prog 29 (.code f29) := ⟨Tryz.f29, cl1, kp1, _, _, Tryz.func29, by kernel_rfl, t29⟩
theorem t42 : trFn Tryz.prog cl1 kp1 .closed [] Tryz.f42 = some f42 := by kernel_rfl
theorem e42 [Globs] : EntryOk Tryz.prog 42 (.code f42) := ⟨Tryz.f42, cl1, kp1, _, _, Tryz.func42, by kernel_rfl, t42⟩
theorem t47 : trFn Tryz.prog cl1 kp1 .closed [[0, 1, 3, 16, 17]] Tryz.f47 = some f47 := by kernel_rfl
theorem e47 [Globs] : EntryOk Tryz.prog 47 (.code f47) := ⟨Tryz.f47, cl1, kp1, _, _, Tryz.func47, by kernel_rfl, t47⟩
theorem t62 : trFn Tryz.prog cl1 kp1 .closed [] Tryz.f62 = some f62 := by kernel_rfl
theorem e62 [Globs] : EntryOk Tryz.prog 62 (.code f62) := ⟨Tryz.f62, cl1, kp1, _, _, Tryz.func62, by kernel_rfl, t62⟩
theorem t69 : trFn Tryz.prog cl1 kp1 .closed [] Tryz.f69 = some f69 := by kernel_rfl
theorem e69 [Globs] : EntryOk Tryz.prog 69 (.code f69) := ⟨Tryz.f69, cl1, kp1, _, _, Tryz.func69, by kernel_rfl, t69⟩
theorem t73 : trFn Tryz.prog cl1 kp1 .closed [[0, 1, 2, 3]] Tryz.f73 = some f73 := by kernel_rfl
theorem e73 [Globs] : EntryOk Tryz.prog 73 (.code f73) := ⟨Tryz.f73, cl1, kp1, _, _, Tryz.func73, by kernel_rfl, t73⟩
theorem t81 : trFn Tryz.prog cl1 kp1 .closed [] Tryz.f81 = some f81 := by kernel_rfl
theorem e81 [Globs] : EntryOk Tryz.prog 81 (.code f81) := ⟨Tryz.f81, cl1, kp1, _, _, Tryz.func81, by kernel_rfl, t81⟩
theorem t87 : trFn Tryz.prog cl1 kp1 .closed [] Tryz.f87 = some f87 := by kernel_rfl
theorem e87 [Globs] : EntryOk Tryz.prog 87 (.code f87) := ⟨Tryz.f87, cl1, kp1, _, _, Tryz.func87, by kernel_rfl, t87⟩
theorem t91 : trFn Tryz.prog cl1 kp1 .closed [] Tryz.f91 = some f91 := by kernel_rfl
theorem e91 [Globs] : EntryOk Tryz.prog 91 (.code f91) := ⟨Tryz.f91, cl1, kp1, _, _, Tryz.func91, by kernel_rfl, t91⟩
theorem t95 : trFn Tryz.prog cl1 kp1 .closed [] Tryz.f95 = some f95 := by kernel_rfl
theorem e95 [Globs] : EntryOk Tryz.prog 95 (.code f95) := ⟨Tryz.f95, cl1, kp1, _, _, Tryz.func95, by kernel_rfl, t95⟩
theorem t102 : trFn Tryz.prog cl1 kp1 .closed [] Tryz.f102 = some f102 := by kernel_rfl
theorem e102 [Globs] : EntryOk Tryz.prog 102 (.code f102) := ⟨Tryz.f102, cl1, kp1, _, _, Tryz.func102, by kernel_rfl, t102⟩
theorem t107 : trFn Tryz.prog cl1 kp1 .closed [[0, 2, 4]] Tryz.f107 = some f107 := by kernel_rfl
theorem e107 [Globs] : EntryOk Tryz.prog 107 (.code f107) := ⟨Tryz.f107, cl1, kp1, _, _, Tryz.func107, by kernel_rfl, t107⟩
theorem t121 : trFn Tryz.prog cl1 kp1 .closed [] Tryz.f121 = some f121 := by kernel_rfl
theorem e121 [Globs] : EntryOk Tryz.prog 121 (.code f121) := ⟨Tryz.f121, cl1, kp1, _, _, Tryz.func121, by kernel_rfl, t121⟩
theorem t126 : trFn Tryz.prog cl1 kp1 .closed [] Tryz.f126 = some f126 := by kernel_rfl
theorem e126 [Globs] : EntryOk Tryz.prog 126 (.code f126) := ⟨Tryz.f126, cl1, kp1, _, _, Tryz.func126, by kernel_rfl, t126⟩
theorem t137 : trFn Tryz.prog cl1 kp1 .closed [] Tryz.f137 = some f137 := by kernel_rfl
theorem e137 [Globs] : EntryOk Tryz.prog 137 (.code f137) := ⟨Tryz.f137, cl1, kp1, _, _, Tryz.func137, by kernel_rfl, t137⟩
end J3
