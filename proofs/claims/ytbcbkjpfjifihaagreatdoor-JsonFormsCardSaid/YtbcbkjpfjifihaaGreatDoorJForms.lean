/- JsonForms on the abstract machine. -/
import Derived.Test.YtbcbkjpfjifihaaGreatDoorJTrim
set_option linter.unusedSectionVars false
set_option linter.unusedVariables false
set_option linter.unusedSimpArgs false
namespace J3
open Ab Go

/-- It returns this truth. -/
def tells : Option Out → Bool
  | some (.ret (.bool b) _) => b
  | _ => false
theorem of_tells {o : Option Out} (h : tells o = true) : ∃ s, o = some (.ret (.bool true) s) := by
  unfold tells at h
  split at h
  · subst h; exact ⟨_, rfl⟩
  · cases h
/-- A call that sees nothing of ours and tells a truth. -/
theorem call_true {P : Prog} {n f : Nat} {args : List V} (hp : V.pures args = true) (hf : V.forgets args = args) (h : tells ((fN P n).1 f args []) = true) (st : St) : callAs (run P) .closed f args st = some (.val (.bool true) st) := by
  obtain ⟨s, hs⟩ := of_tells h
  have := run_fast hs
  simp [hp, hf, this]
set_option maxRecDepth 100000 in
theorem awake_true : tells ((fN prog1 200).1 17 [] []) = true := by kernel_rfl
theorem awake_call (st : St) : callAs (run prog1) .closed 17 [] st = some (.val (.bool true) st) := call_true rfl rfl awake_true st

def bad (k : Nat) : List UInt8 := ([[], [32], [110, 117, 108], [110, 117, 108, 108, 108], [84, 114, 117, 101], [48, 49], [45], [43, 49], [49, 46], [49, 46, 48], [49, 101, 53], [57, 48, 48, 55, 49, 57, 57, 50, 53, 52, 55, 52, 48, 57, 57, 50], [34], [34, 97], [34, 10, 34], [34, 92, 120, 34], [34, 92, 117, 49, 50, 34], [34, 92, 117, 100, 56, 48, 48, 34], [34, 92, 117, 100, 99, 48, 48, 34], [34, 92, 117, 100, 56, 48, 48, 92, 117, 48, 48, 52, 49, 34], [34, 255, 34], [91], [91, 49], [91, 49, 44, 93], [91, 44, 49, 93], [91, 49, 32, 50, 93], [123], [123, 34, 97, 34, 125], [123, 34, 97, 34, 58, 125], [123, 34, 97, 34, 58, 49, 44, 125], [123, 97, 58, 49, 125], [123, 34, 98, 34, 58, 49, 44, 34, 97, 34, 58, 49, 125], [123, 34, 97, 34, 58, 49, 44, 34, 97, 34, 58, 49, 125], [123, 34, 34, 58, 49, 125], [49, 32, 49], [91, 91, 91, 91, 91, 91, 91, 91, 49, 93, 93, 93, 93, 93, 93, 93, 93], [39, 97, 39], [78, 97, 78]] : List (List UInt8)).getD k []
/-- It tells no value, and that it is none. -/
def none? : Option Out → Bool
  | some (.ret (.tup [.agg [.int .i64 (.ofNat 0), .int .i64 (.ofNat 0), .int .u64 (.ofNat 0), .str [], .sl true [], .sl true []], .int .i64 (.ofNat 1000)]) _) => true
  | _ => false
def zeroV : V := .agg [.int .i64 0, .int .i64 0, .int .u64 0, .str [], .sl false [], .sl false []]
theorem of_none {o : Option Out} (h : none? o = true) : ∃ s, o = some (.ret (.tup [.agg [.int .i64 0, .int .i64 0, .int .u64 0, .str [], .sl true [], .sl true []], .int .i64 1000]) s) := by
  unfold none? at h
  split at h
  · exact ⟨_, rfl⟩
  · cases h
set_option maxRecDepth 100000 in
theorem bads : ((List.range 38).all fun k => none? ((fN prog1 200).1 13 [.str (bad k)] [])) = true := by kernel_rfl
theorem bad_call {k : Nat} (hk : k < 38) (st : St) : callAs (run prog1) .closed 13 [.str (bad k)] st = some (.val (.tup [zeroV, .int .i64 1000]) st) := by
  obtain ⟨s, hs⟩ := of_none (List.all_eq_true.1 bads k (List.mem_range.2 hk))
  have := run_fast hs
  simp [this, zeroV]
theorem lit_ins (K : Calls) (e : Env) (s : St) : insV K e s f5I0 = some (.val (.sl true ((List.range 38).map fun k => .str (bad k))) s) := by kernel_rfl

theorem wrap_mod (n : Int) : ∃ k : Nat, k < 38 ∧ IntKind.i64.wrap (Int.tmod (IntKind.u64.wrap n) 38) = k := by
  have h0 : 0 ≤ IntKind.u64.wrap n := by simp [IntKind.wrap, IntKind.signed, IntKind.bits]; omega
  have h1 : Int.tmod (IntKind.u64.wrap n) 38 = IntKind.u64.wrap n % 38 := Int.tmod_eq_emod_of_nonneg h0
  rw [h1]
  generalize IntKind.u64.wrap n = m at *
  refine ⟨(m % 38).toNat, by omega, ?_⟩
  simp only [IntKind.wrap, IntKind.signed, IntKind.bits]
  simp
  omega

theorem callC {P : Prog} {f : Nat} {args : List V} {v : V} {s' : St} (h : run P f args [] = some (.ret v s')) (hp : V.pures args = true) (hf : V.forgets args = args) (hv : v.pure = true) (st : St) : callAs (run P) .closed f args st = some (.val v.forget st) := by
  simp only [callAs, closedCall, hp, hf, cond_true, h, snap_closed hv, Option.map_some]
theorem num_call (st : St) : callAs (run prog1) .closed 15 [.int .i64 1000] st = some (.val (.int .i64 1000) st) :=
  callC (v := .int .i64 1000) (s' := []) (run_fast (n := 20) (by kernel_rfl)) rfl rfl rfl st
theorem forms_run (n : Int) : ∃ s, run prog1 5 [.int .i64 n] [] = some (.ret (.bool true) s) := by
  obtain ⟨k, hk, he⟩ := wrap_mod n
  have hidx := idx_nat hk
  have hget : ((List.range 38).map fun k => V.str (bad k))[k]? = some (.str (bad k)) := by simp [hk]
  have h15 := num_call
  rw [run_body (fn := f5) (by kernel_rfl) _ _ rfl]
  simp [f5, awake_call, bad_call hk, ↓lit_ins, he, hidx, hget, h15, zeroV, -callAs]
end J3
