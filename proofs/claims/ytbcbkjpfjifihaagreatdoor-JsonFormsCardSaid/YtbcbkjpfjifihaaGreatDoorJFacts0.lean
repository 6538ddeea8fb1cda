/- That the code is the program's (part 1). -/
import Derived.Test.YtbcbkjpfjifihaaGreatDoorJCode0
import Derived.Test.YtbcbkjpfjifihaaGreatDoorProg
import Derived.Test.YtbcbkjpfjifihaaGreatDoorAbC
import Derived.KernelRfl
set_option linter.unusedSectionVars false
set_option linter.unusedVariables false
set_option linter.unusedSimpArgs false
namespace J3
open Ab Go Go.Proofs
def cl0 : List Nat := [2, 5, 6, 7, 8, 9, 11, 13, 14, 15, 16, 17, 18, 20, 21, 22, 23, 24, 25, 26, 27, 29, 30, 32, 35, 36, 37, 38, 39, 40, 43, 44, 48, 50, 58, 59, 60, 61, 62, 63, 64, 65, 66, 67, 68, 69, 71, 75, 78, 79, 80, 81, 82, 83, 85, 86, 87, 88, 89, 90, 91, 92, 93, 94, 95, 98, 100, 101, 102, 104, 105, 106, 107, 108, 109, 111, 112, 113, 118, 119, 120, 121, 122, 124, 125, 127, 128, 129, 130, 131, 132, 133, 134, 135, 136, 137, 139, 141, 142, 145, 146, 147, 150, 151, 152, 155, 156, 182]
def kp0 : List Nat := []
theorem t5 : trFn Tryz.prog cl0 kp0 .closed [] Tryz.f5 = some f5 := by kernel_rfl
theorem e5 [Globs] : EntryOk Tryz.prog 5 (.code f5) := ⟨Tryz.f5, cl0, kp0, _, _, Tryz.func5, by kernel_rfl, t5⟩
theorem t11 : trFn Tryz.prog cl0 kp0 .closed [] Tryz.f11 = some f11 := by kernel_rfl
theorem e11 [Globs] : EntryOk Tryz.prog 11 (.code f11) := ⟨Tryz.f11, cl0, kp0, _, _, Tryz.func11, by kernel_rfl, t11⟩
theorem t17 : trFn Tryz.prog cl0 kp0 .closed [] Tryz.f17 = some f17 := by kernel_rfl
theorem e17 [Globs] : EntryOk Tryz.prog 17 (.code f17) := ⟨Tryz.f17, cl0, kp0, _, _, Tryz.func17, by kernel_rfl, t17⟩
theorem t23 : trFn Tryz.prog cl0 kp0 .closed [[0, 3, 4]] Tryz.f23 = some f23 := by kernel_rfl
theorem e23 [Globs] : EntryOk Tryz.prog 23 (.code f23) := ⟨Tryz.f23, cl0, kp0, _, _, Tryz.func23, by kernel_rfl, t23⟩
theorem t28 : trFn Tryz.prog cl0 kp0 .closed [] Tryz.f28 = some f28 := by kernel_rfl
theorem e28 [Globs] : EntryOk Tryz.prog 28 (.code f28) := ⟨Tryz.f28, cl0, kp0, _, _, Tryz.func28, by kernel_rfl, t28⟩
theorem t41 : trFn Tryz.prog cl0 kp0 .closed [[0, 1, 2, 30, 31]] Tryz.f41 = some f41 := by kernel_rfl
theorem e41 [Globs] : EntryOk Tryz.prog 41 (.code f41) := ⟨Tryz.f41, cl0, kp0, _, _, Tryz.func41, by kernel_rfl, t41⟩
theorem t46 : trFn Tryz.prog cl0 kp0 .closed [] Tryz.f46 = some f46 := by kernel_rfl
theorem e46 [Globs] : EntryOk Tryz.prog 46 (.code f46) := ⟨Tryz.f46, cl0, kp0, _, _, Tryz.func46, by kernel_rfl, t46⟩
theorem t61 : trFn Tryz.prog cl0 kp0 .closed [] Tryz.f61 = some f61 := by kernel_rfl
theorem e61 [Globs] : EntryOk Tryz.prog 61 (.code f61) := ⟨Tryz.f61, cl0, kp0, _, _, Tryz.func61, by kernel_rfl, t61⟩
theorem t66 : trFn Tryz.prog cl0 kp0 .closed [[0, 3, 4, 11, 12]] Tryz.f66 = some f66 := by kernel_rfl
theorem e66 [Globs] : EntryOk Tryz.prog 66 (.code f66) := ⟨Tryz.f66, cl0, kp0, _, _, Tryz.func66, by kernel_rfl, t66⟩
theorem t72 : trFn Tryz.prog cl0 kp0 .closed [[0, 3]] Tryz.f72 = some f72 := by kernel_rfl
theorem e72 [Globs] : EntryOk Tryz.prog 72 (.code f72) := ⟨Tryz.f72, cl0, kp0, _, _, Tryz.func72, by kernel_rfl, t72⟩
theorem t80 : trFn Tryz.prog cl0 kp0 .closed [] Tryz.f80 = some f80 := by kernel_rfl
theorem e80 [Globs] : EntryOk Tryz.prog 80 (.code f80) := ⟨Tryz.f80, cl0, kp0, _, _, Tryz.func80, by kernel_rfl, t80⟩
theorem t86 : trFn Tryz.prog cl0 kp0 .closed [] Tryz.f86 = some f86 := by kernel_rfl
theorem e86 [Globs] : EntryOk Tryz.prog 86 (.code f86) := ⟨Tryz.f86, cl0, kp0, _, _, Tryz.func86, by kernel_rfl, t86⟩
theorem t90 : trFn Tryz.prog cl0 kp0 .closed [] Tryz.f90 = some f90 := by kernel_rfl
theorem e90 [Globs] : EntryOk Tryz.prog 90 (.code f90) := ⟨Tryz.f90, cl0, kp0, _, _, Tryz.func90, by kernel_rfl, t90⟩
theorem t94 : trFn Tryz.prog cl0 kp0 .closed [] Tryz.f94 = some f94 := by kernel_rfl
theorem e94 [Globs] : EntryOk Tryz.prog 94 (.code f94) := ⟨Tryz.f94, cl0, kp0, _, _, Tryz.func94, by kernel_rfl, t94⟩
theorem t99 : trFn Tryz.prog cl0 kp0 .closed [] Tryz.f99 = some f99 := by kernel_rfl
theorem e99 [Globs] : EntryOk Tryz.prog 99 (.code f99) := ⟨Tryz.f99, cl0, kp0, _, _, Tryz.func99, by kernel_rfl, t99⟩
theorem t106 : trFn Tryz.prog cl0 kp0 .closed [[0, 1]] Tryz.f106 = some f106 := by kernel_rfl
theorem e106 [Globs] : EntryOk Tryz.prog 106 (.code f106) := ⟨Tryz.f106, cl0, kp0, _, _, Tryz.func106, by kernel_rfl, t106⟩
theorem t118 : trFn Tryz.prog cl0 kp0 .closed [] Tryz.f118 = some f118 := by kernel_rfl
theorem e118 [Globs] : EntryOk Tryz.prog 118 (.code f118) := ⟨Tryz.f118, cl0, kp0, _, _, Tryz.func118, by kernel_rfl, t118⟩
theorem t125 : trFn Tryz.prog cl0 kp0 .closed [] Tryz.f125 = some f125 := by kernel_rfl
theorem e125 [Globs] : EntryOk Tryz.prog 125 (.code f125) := ⟨Tryz.f125, cl0, kp0, _, _, Tryz.func125, by kernel_rfl, t125⟩
theorem t130 : trFn Tryz.prog cl0 kp0 .closed [] Tryz.f130 = some f130 := by kernel_rfl
theorem e130 [Globs] : EntryOk Tryz.prog 130 (.code f130) := ⟨Tryz.f130, cl0, kp0, _, _, Tryz.func130, by kernel_rfl, t130⟩
end J3
