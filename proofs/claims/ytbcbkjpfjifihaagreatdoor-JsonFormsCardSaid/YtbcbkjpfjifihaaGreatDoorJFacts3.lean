/- That the code is the program's (part 4). -/
import Derived.Test.YtbcbkjpfjifihaaGreatDoorJCode0
import Derived.Test.YtbcbkjpfjifihaaGreatDoorProg
import Derived.Test.YtbcbkjpfjifihaaGreatDoorAbC
import Derived.KernelRfl
set_option linter.unusedSectionVars false
set_option linter.unusedVariables false
set_option linter.unusedSimpArgs false
namespace J3
open Ab Go Go.Proofs
def cl3 : List Nat := [2, 5, 6, 7, 8, 9, 11, 13, 14, 15, 16, 17, 18, 20, 21, 22, 23, 24, 25, 26, 27, 29, 30, 32, 35, 36, 37, 38, 39, 40, 43, 44, 48, 50, 58, 59, 60, 61, 62, 63, 64, 65, 66, 67, 68, 69, 71, 75, 78, 79, 80, 81, 82, 83, 85, 86, 87, 88, 89, 90, 91, 92, 93, 94, 95, 98, 100, 101, 102, 104, 105, 106, 107, 108, 109, 111, 112, 113, 118, 119, 120, 121, 122, 124, 125, 127, 128, 129, 130, 131, 132, 133, 134, 135, 136, 137, 139, 141, 142, 145, 146, 147, 150, 151, 152, 155, 156, 182]
def kp3 : List Nat := []
theorem t8 : trFn Tryz.prog cl3 kp3 .closed [] Tryz.f8 = some f8 := by kernel_rfl
theorem e8 [Globs] : EntryOk Tryz.prog 8 (.code f8) := ⟨Tryz.f8, cl3, kp3, _, _, Tryz.func8, by kernel_rfl, t8⟩
theorem t16 : trFn Tryz.prog cl3 kp3 .closed [[2, 3, 5]] Tryz.f16 = some f16 := by kernel_rfl
theorem e16 [Globs] : EntryOk Tryz.prog 16 (.code f16) := ⟨Tryz.f16, cl3, kp3, _, _, Tryz.func16, by kernel_rfl, t16⟩
theorem t22 : trFn Tryz.prog cl3 kp3 .closed [] Tryz.f22 = some f22 := by kernel_rfl
theorem e22 [Globs] : EntryOk Tryz.prog 22 (.code f22) := ⟨Tryz.f22, cl3, kp3, _, _, Tryz.func22, by kernel_rfl, t22⟩
theorem t27 : trFn Tryz.prog cl3 kp3 .closed [] Tryz.f27 = some f27 := by kernel_rfl
theorem e27 [Globs] : EntryOk Tryz.prog 27 (.code f27) := ⟨Tryz.f27, cl3, kp3, _, _, Tryz.func27, by kernel_rfl, t27⟩
theorem t35 : trFn Tryz.prog cl3 kp3 .closed [[0, 1, 5]] Tryz.f35 = some f35 := by kernel_rfl
theorem e35 [Globs] : EntryOk Tryz.prog 35 (.code f35) := ⟨Tryz.f35, cl3, kp3, _, _, Tryz.func35, by kernel_rfl, t35⟩
theorem t45 : trFn Tryz.prog cl3 kp3 .closed [] Tryz.f45 = some f45 := by kernel_rfl
theorem e45 [Globs] : EntryOk Tryz.prog 45 (.code f45) := ⟨Tryz.f45, cl3, kp3, _, _, Tryz.func45, by kernel_rfl, t45⟩
theorem t53 : trFn Tryz.prog cl3 kp3 .closed [] Tryz.f53 = some f53 := by kernel_rfl
theorem e53 [Globs] : EntryOk Tryz.prog 53 (.code f53) := ⟨Tryz.f53, cl3, kp3, _, _, Tryz.func53, by kernel_rfl, t53⟩
theorem t65 : trFn Tryz.prog cl3 kp3 .closed [] Tryz.f65 = some f65 := by kernel_rfl
theorem e65 [Globs] : EntryOk Tryz.prog 65 (.code f65) := ⟨Tryz.f65, cl3, kp3, _, _, Tryz.func65, by kernel_rfl, t65⟩
theorem t71 : trFn Tryz.prog cl3 kp3 .closed [] Tryz.f71 = some f71 := by kernel_rfl
theorem e71 [Globs] : EntryOk Tryz.prog 71 (.code f71) := ⟨Tryz.f71, cl3, kp3, _, _, Tryz.func71, by kernel_rfl, t71⟩
theorem t75 : trFn Tryz.prog cl3 kp3 .closed [] Tryz.f75 = some f75 := by kernel_rfl
theorem e75 [Globs] : EntryOk Tryz.prog 75 (.code f75) := ⟨Tryz.f75, cl3, kp3, _, _, Tryz.func75, by kernel_rfl, t75⟩
theorem t85 : trFn Tryz.prog cl3 kp3 .closed [] Tryz.f85 = some f85 := by kernel_rfl
theorem e85 [Globs] : EntryOk Tryz.prog 85 (.code f85) := ⟨Tryz.f85, cl3, kp3, _, _, Tryz.func85, by kernel_rfl, t85⟩
theorem t89 : trFn Tryz.prog cl3 kp3 .closed [] Tryz.f89 = some f89 := by kernel_rfl
theorem e89 [Globs] : EntryOk Tryz.prog 89 (.code f89) := ⟨Tryz.f89, cl3, kp3, _, _, Tryz.func89, by kernel_rfl, t89⟩
theorem t93 : trFn Tryz.prog cl3 kp3 .closed [[0, 1, 3]] Tryz.f93 = some f93 := by kernel_rfl
theorem e93 [Globs] : EntryOk Tryz.prog 93 (.code f93) := ⟨Tryz.f93, cl3, kp3, _, _, Tryz.func93, by kernel_rfl, t93⟩
theorem t97 : trFn Tryz.prog cl3 kp3 .closed [] Tryz.f97 = some f97 := by kernel_rfl
theorem e97 [Globs] : EntryOk Tryz.prog 97 (.code f97) := ⟨Tryz.f97, cl3, kp3, _, _, Tryz.func97, by kernel_rfl, t97⟩
theorem t105 : trFn Tryz.prog cl3 kp3 .closed [] Tryz.f105 = some f105 := by kernel_rfl
theorem e105 [Globs] : EntryOk Tryz.prog 105 (.code f105) := ⟨Tryz.f105, cl3, kp3, _, _, Tryz.func105, by kernel_rfl, t105⟩
theorem t109 : trFn Tryz.prog cl3 kp3 .closed [[0, 1]] Tryz.f109 = some f109 := by kernel_rfl
theorem e109 [Globs] : EntryOk Tryz.prog 109 (.code f109) := ⟨Tryz.f109, cl3, kp3, _, _, Tryz.func109, by kernel_rfl, t109⟩
theorem t123 : trFn Tryz.prog cl3 kp3 .closed [] Tryz.f123 = some f123 := by kernel_rfl
theorem e123 [Globs] : EntryOk Tryz.prog 123 (.code f123) := ⟨Tryz.f123, cl3, kp3, _, _, Tryz.func123, by kernel_rfl, t123⟩
theorem t129 : trFn Tryz.prog cl3 kp3 .closed [] Tryz.f129 = some f129 := by kernel_rfl
theorem e129 [Globs] : EntryOk Tryz.prog 129 (.code f129) := ⟨Tryz.f129, cl3, kp3, _, _, Tryz.func129, by kernel_rfl, t129⟩
theorem t143 : trFn Tryz.prog cl3 kp3 .closed [[0, 3, 13]] Tryz.f143 = some f143 := by kernel_rfl
theorem e143 [Globs] : EntryOk Tryz.prog 143 (.code f143) := ⟨Tryz.f143, cl3, kp3, _, _, Tryz.func143, by kernel_rfl, t143⟩
end J3
