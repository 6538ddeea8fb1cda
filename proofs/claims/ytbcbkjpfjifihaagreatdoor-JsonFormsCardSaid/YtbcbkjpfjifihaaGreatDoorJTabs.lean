/- The tables that the library's functions read, out of what a row lists. -/
import Derived.Test.YtbcbkjpfjifihaaGreatDoorRows
import Derived.Test.YtbcbkjpfjifihaaGreatDoorJTrim
set_option linter.unusedSectionVars false
set_option linter.unusedVariables false
set_option linter.unusedSimpArgs false
namespace J3
open Go Go.Proofs Go.Lib Ab

def layT (h : Array Go.Obj) (g : Nat) (cs : List Value) : Array Go.Obj := h.modify g fun
  | .cells _ t fr => .cells cs.toArray t fr
  | o => o
mutual
def cellsD : DataW Unit → List Value
  | .lit (.int k n) => [.int k n]
  | .agg parts => cellsDs parts
  | _ => []
def cellsDs : List (DataW Unit) → List Value
  | [] => []
  | d :: r => cellsD d ++ cellsDs r
end

theorem u8x : U8Extra Tryz.prog Tryz.lays260_ren := ⟨by kernel_rfl, by kernel_rfl, by kernel_rfl, by kernel_rfl, by kernel_rfl, by kernel_rfl, by kernel_rfl⟩
theorem accept_eq : (YtbcbkjpfjifihaaGreatDoor.Rows.laid_unicode_utf8_acceptRanges : DataW Unit) = acceptData := by kernel_rfl
theorem pow_eq : (YtbcbkjpfjifihaaGreatDoor.Rows.laid_internal_strconv_uint64pow10 : DataW Unit) = tabData .u64 pow10Tab := by kernel_rfl
theorem first_eq : (YtbcbkjpfjifihaaGreatDoor.Rows.laid_unicode_utf8_first : DataW Unit) = firstData := Pinned.utf8First_eq

/-- The seat's list of tables. -/
def laidL : List (String × DataW Unit) := YtbcbkjpfjifihaaGreatDoor.Rows.jsonFormsRow.laid

theorem tabs {W : World} (h : laidMet Tryz.prog laidL W) (hsh : W.ShapedOpen Tryz.prog) : @Tabs (globsOf W [1, 3, 4, 5]) := by
  have h1 : VarReads Tryz.prog W "internal/strconv.uint64pow10" (tabData .u64 pow10Tab) := laidMet.reads h (by rw [← pow_eq]; simp [laidL, YtbcbkjpfjifihaaGreatDoor.Rows.jsonFormsRow])
  have h3 : VarReads Tryz.prog W "unicode/utf8.first" firstData := laidMet.reads h (by rw [← first_eq]; simp [laidL, YtbcbkjpfjifihaaGreatDoor.Rows.jsonFormsRow])
  have h4 : VarReads Tryz.prog W "unicode/utf8.acceptRanges" acceptData := laidMet.reads h (by rw [← accept_eq]; simp [laidL, YtbcbkjpfjifihaaGreatDoor.Rows.jsonFormsRow])
  have hp : TabIs Tryz.prog W "internal/strconv.uint64pow10" .u64 pow10Tab :=
    tabIs_of_reads (g := 1) (t := 148) (e := 22) (n := 20) (by kernel_rfl) (by kernel_rfl) (by kernel_rfl) (by kernel_rfl) (by kernel_rfl) (by kernel_rfl) h1
  have hu : Utf8Tabs 3 4 W := utf8Tabs_of_reads Tryz.lays260 u8x h3 h4
  obtain ⟨m, hm⟩ := Tryz.laysM155.s1_3 W hsh
  letI := globsOf W [1, 3, 4, 5]
  exact ⟨fun M R s w hg => tab_tabIs (b := 1) (by kernel_rfl) (by decide) hp hg, fun M R s w hg => tab_utf8 (by decide) (by decide) hu hg, ⟨m, fun M R s w hg => tab_cell (b := 5) (by decide) hm hg⟩⟩
end J3
