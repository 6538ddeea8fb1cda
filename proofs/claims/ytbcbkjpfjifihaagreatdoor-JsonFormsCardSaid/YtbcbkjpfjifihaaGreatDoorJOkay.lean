/- That the abstract program is sound for the given one. -/
import Derived.Test.YtbcbkjpfjifihaaGreatDoorJFacts0
import Derived.Test.YtbcbkjpfjifihaaGreatDoorJFacts1
import Derived.Test.YtbcbkjpfjifihaaGreatDoorJFacts2
import Derived.Test.YtbcbkjpfjifihaaGreatDoorJFacts3
import Derived.Test.YtbcbkjpfjifihaaGreatDoorJLib
set_option linter.unusedSectionVars false
set_option linter.unusedVariables false
set_option linter.unusedSimpArgs false
namespace J3
open Ab Go Go.Shelf Go.Proofs
/-- What the library's functions read of the program's tables. -/
structure Tabs [Globs] : Prop where
  pow : ∀ M R s w, Good M R s w → Lib.TabIs Tryz.prog w "internal/strconv.uint64pow10" .u64 Lib.pow10Tab
  utf : ∀ M R s w, Good M R s w → Lib.Utf8Tabs 3 4 w
  mx : ∃ m, ∀ M R s w, Good M R s w → w.cell? ⟨5, 0, none⟩ = some (.int .i64 m)
theorem Tabs.repl [Globs] (T : Tabs) (s o n : ByteArray) (w : World) (hg : ∃ M R S, Good M R S w) (h1 : s.size < 4294967281) (h2 : 1 ≤ o.size) (h3 : s.size + Lib.countB s o * n.size ≤ 140737488355328) :
    Go.Calls Tryz.prog 98 #[.string s, .string o, .string n] w fun e w' => e = .returned (.string ⟨(Lib.replaceAll s.data.toList o.data.toList n.data.toList).toArray⟩) ∧ RowKit.Below w.heap.size w w' := by
  obtain ⟨m, hm⟩ := T.mx
  obtain ⟨M, R, S, hg⟩ := hg
  exact Any.strings_ReplaceAll { Tryz.laysM155 with } Tryz.Builder_Extra_M155 s o n m w h1 (hm _ _ _ _ hg) h2 h3
set_option maxRecDepth 100000 in
theorem e44 [Globs] (TT : Tabs) : EntryOk Tryz.prog 44 (.prim Ab.pItoa) := itoa_ok (enters_of Tryz.func44 (by kernel_rfl) rfl) (fun n w h0 h1 ht => Tryz.strconv_Itoa n h0 h1 w ht) TT.pow
set_option maxRecDepth 100000 in
theorem e84 [Globs] (TT : Tabs) : EntryOk Tryz.prog 84 (.prim Ab.pF64from) := f64from_ok Tryz.func84 (by kernel_rfl) (by kernel_rfl) (by kernel_rfl) (by kernel_rfl)
set_option maxRecDepth 100000 in
theorem e98 [Globs] (TT : Tabs) : EntryOk Tryz.prog 98 (.prim Ab.pReplaceAll) := replaceAll_ok (enters_of Tryz.func98 (by kernel_rfl) rfl) TT.repl
set_option maxRecDepth 100000 in
theorem e104 [Globs] (TT : Tabs) : EntryOk Tryz.prog 104 (.prim Ab.pDecode) := decode_ok (enters_of Tryz.func104 (by kernel_rfl) rfl) (fun s w hT => Tryz.utf8_DecodeRuneInString s w hT) TT.utf
set_option maxRecDepth 100000 in
theorem e116 [Globs] (TT : Tabs) : EntryOk Tryz.prog 116 (.prim Ab.pF64bits) := f64bits_ok Tryz.func116 (by kernel_rfl) (by kernel_rfl) (by kernel_rfl) (by kernel_rfl)
set_option maxRecDepth 100000 in
theorem e117 [Globs] (TT : Tabs) : EntryOk Tryz.prog 117 (.prim Ab.pTrunc) := trunc_ok (nm := "math.archTrunc") Tryz.func117 (by kernel_rfl) (by kernel_rfl) (by kernel_rfl) (by kernel_rfl)
set_option maxRecDepth 100000 in
theorem e138 [Globs] (TT : Tabs) : EntryOk Tryz.prog 138 (.prim Ab.pNoEscape) := noEscape_ok Tryz.func138 (by kernel_rfl) (by kernel_rfl) (by kernel_rfl) (by kernel_rfl)
set_option maxRecDepth 100000 in
theorem e144 [Globs] (TT : Tabs) : EntryOk Tryz.prog 144 (.prim Ab.pIndexByteString) := indexByteString_ok Tryz.func144 (by kernel_rfl) (by kernel_rfl) (by kernel_rfl) (by kernel_rfl)
set_option maxRecDepth 100000 in
theorem okay [Globs] (TT : Tabs) : ProgOk Tryz.prog prog0 := progOk_tree (T.all_node (T.all_node (T.all_node (T.all_node (T.all_node (T.all_node (T.all_node T.all_leaf e5 T.all_leaf) e6 T.all_leaf) e7 (T.all_node (T.all_node T.all_leaf e8 T.all_leaf) e11 T.all_leaf)) e13 (T.all_node (T.all_node (T.all_node T.all_leaf e15 T.all_leaf) e16 T.all_leaf) e17 (T.all_node T.all_leaf e20 T.all_leaf))) e21 (T.all_node (T.all_node (T.all_node (T.all_node T.all_leaf e22 T.all_leaf) e23 T.all_leaf) e24 (T.all_node (T.all_node T.all_leaf e25 T.all_leaf) e27 T.all_leaf)) e28 (T.all_node (T.all_node (T.all_node T.all_leaf e29 T.all_leaf) e32 T.all_leaf) e35 (T.all_node T.all_leaf e41 T.all_leaf)))) e42 (T.all_node (T.all_node (T.all_node (T.all_node (T.all_node T.all_leaf e43 T.all_leaf) (e44 TT) T.all_leaf) e45 (T.all_node (T.all_node T.all_leaf e46 T.all_leaf) e47 T.all_leaf)) e52 (T.all_node (T.all_node (T.all_node T.all_leaf e53 T.all_leaf) e61 T.all_leaf) e62 (T.all_node T.all_leaf e64 T.all_leaf))) e65 (T.all_node (T.all_node (T.all_node (T.all_node T.all_leaf e66 T.all_leaf) e69 T.all_leaf) e70 (T.all_node T.all_leaf e71 T.all_leaf)) e72 (T.all_node (T.all_node (T.all_node T.all_leaf e73 T.all_leaf) e74 T.all_leaf) e75 (T.all_node T.all_leaf e80 T.all_leaf))))) e81 (T.all_node (T.all_node (T.all_node (T.all_node (T.all_node (T.all_node T.all_leaf e82 T.all_leaf) (e84 TT) T.all_leaf) e85 (T.all_node (T.all_node T.all_leaf e86 T.all_leaf) e87 T.all_leaf)) e88 (T.all_node (T.all_node (T.all_node T.all_leaf e89 T.all_leaf) e90 T.all_leaf) e91 (T.all_node T.all_leaf e92 T.all_leaf))) e93 (T.all_node (T.all_node (T.all_node (T.all_node T.all_leaf e94 T.all_leaf) e95 T.all_leaf) e96 (T.all_node T.all_leaf e97 T.all_leaf)) (e98 TT) (T.all_node (T.all_node (T.all_node T.all_leaf e99 T.all_leaf) e102 T.all_leaf) e103 (T.all_node T.all_leaf (e104 TT) T.all_leaf)))) e105 (T.all_node (T.all_node (T.all_node (T.all_node (T.all_node T.all_leaf e106 T.all_leaf) e107 T.all_leaf) e108 (T.all_node (T.all_node T.all_leaf e109 T.all_leaf) (e116 TT) T.all_leaf)) (e117 TT) (T.all_node (T.all_node (T.all_node T.all_leaf e118 T.all_leaf) e121 T.all_leaf) e122 (T.all_node T.all_leaf e123 T.all_leaf))) e125 (T.all_node (T.all_node (T.all_node (T.all_node T.all_leaf e126 T.all_leaf) e128 T.all_leaf) e129 (T.all_node T.all_leaf e130 T.all_leaf)) e137 (T.all_node (T.all_node (T.all_node T.all_leaf (e138 TT) T.all_leaf) e142 T.all_leaf) e143 (T.all_node T.all_leaf (e144 TT) T.all_leaf))))))
end J3
