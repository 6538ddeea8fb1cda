/- strings.TrimLeft at the blanks of JSON: what it tells, reckoned on the abstract machine; then it is a function that is known. -/
import Derived.Test.YtbcbkjpfjifihaaGreatDoorJOkay
import Derived.Test.YtbcbkjpfjifihaaGreatDoorAbB
import Derived.KernelRfl
set_option linter.unusedSectionVars false
set_option linter.unusedVariables false
set_option linter.unusedSimpArgs false
namespace J3
open Ab Go
variable {P : Prog}

theorem contains_spec (h : P 129 = some (.code f129)) (cs : List V) (c : Nat) (b : Bool) (hc : c < 256) (hb : cs[c]? = some (.bool b)) (s : St) :
    run P 129 [.ro cs, .int .u8 c] s = some (.ret (.bool b) s) := by
  rw [run_body h _ _ rfl]
  have hi := idx_nat hc
  have h1 := take1 hb
  simp [f129, hi, h1]

def Tab (p : UInt8 → Bool) (cs : List V) : Prop := V.pures cs = true ∧ V.forgets cs = cs ∧ cs.length = 256 ∧ ∀ c : UInt8, cs[c.toNat]? = some (.bool (p c))

theorem trimLeftASCII_loop (h129 : P 129 = some (.code f129)) {p : UInt8 → Bool} {cs : List V} (hT : Tab p cs) :
    ∀ (s : List UInt8), ∃ e, loop P [0, 1] f108L0 [(0, .str s), (1, .ro cs)] [] = some (.exit 0, e, []) ∧ e.get 0 = .str (s.dropWhile p) := by
  obtain ⟨LL, hL⟩ : ∃ x, loop P [0, 1] f108L0 = x := ⟨_, rfl⟩
  intro s
  induction s with
  | nil => rw [loop_body]; simp [f108L0]
  | cons c s ih =>
    have hc := contains_spec h129 cs c.toNat (p c) c.toNat_lt (hT.2.2.2 c) []
    have hp := hT.1
    have hf := hT.2.1
    have e1 : (1 : Int) ≤ (s.length : Int) + 1 := by omega
    rw [loop_body, hL]
    rw [hL] at ih
    simp [hc, hp, hf, f108L0, e1]
    cases hpc : p c <;> simp [hpc, ih]

theorem trimLeftASCII_spec (h108 : P 108 = some (.code f108)) (h129 : P 129 = some (.code f129)) {p : UInt8 → Bool} {cs : List V} (hT : Tab p cs) (s : List UInt8) :
    run P 108 [.str s, .ro cs] [] = some (.ret (.str (s.dropWhile p)) []) := by
  obtain ⟨e, h1, h2⟩ := trimLeftASCII_loop h129 hT s
  rw [run_body h108 _ _ rfl]
  simp [f108, h1, h2]

theorem trimLeft_spec (h75 : P 75 = some (.code f75)) (h108 : P 108 = some (.code f108)) (h129 : P 129 = some (.code f129)) {p : UInt8 → Bool} {cs : List V} (hT : Tab p cs) (s : List UInt8) (a b : UInt8) (t : List UInt8) {s7 : St}
    (h107 : run P 107 [.str (a :: b :: t)] [] = some (.ret (.tup [.agg cs, .bool true]) s7)) (hone : cs.all V.oneCell = true) :
    run P 75 [.str s, .str (a :: b :: t)] [] = some (.ret (.str (s.dropWhile p)) (match s with | [] => [] | _ :: _ => [.box 128 cs])) := by
  have h := trimLeftASCII_spec h108 h129 hT s
  have hl := hT.2.2.1
  rw [run_body h75 _ _ rfl]
  cases s with
  | nil => simp [f75]
  | cons c s =>
    have e1 : ((t.length : Int) + 1 + 1 == 1) = false := by rw [beq_eq_false_iff_ne]; omega
    have e2 : ∀ (st : St) (h ty : Nat) (old : List V), st.at h = .box ty old → old.length = 256 → storeN st (.ptr h 0) cs = some (st.set h (.box ty cs)) := fun st h ty old h1 h2 => storeN_box h1 (by rw [hl, h2]) hone
    simp [f75, h107, hT.1, hT.2.1, hT.2.2.1, e1, -storeN]
    rw [e2 _ _ _ _ rfl (rpl_length _ _)]
    have e3 : snap [.box 128 cs] spLook snapDepth (.ptr 0 0) = some (.ro cs) := by rw [snap_look (s := [.box 128 cs]) (h := 0) (off := 0) (cs := cs) rfl hT.1]; simp [hT.2.1]
    have e4 : snap [.box 128 cs] spLook snapDepth (.str (c :: s)) = some (.str (c :: s)) := by rw [snap_pureV rfl (pure_str _)]; simp [V.forget]
    have e5 : V.plain (.str (List.dropWhile p (c :: s))) = true := by rw [V.plain]
    simp [mapO, e3, e4, h, e5]

/-- The set of some bytes, as Go lays it out. -/
def tab (p : UInt8 → Bool) : List V := (List.range 256).map fun c => .bool (p (UInt8.ofNat c))
theorem pures_bools (p : Nat → Bool) : ∀ l : List Nat, V.pures (l.map fun c => V.bool (p c)) = true ∧ V.forgets (l.map fun c => V.bool (p c)) = l.map fun c => V.bool (p c)
  | [] => by simp
  | c :: l => by have := pures_bools p l; simp [this]
theorem tab_ok (p : UInt8 → Bool) : Tab p (tab p) := by
  have h := pures_bools (fun c => p (UInt8.ofNat c)) (List.range 256)
  refine ⟨h.1, h.2, by simp [tab], fun c => ?_⟩
  have : c.toNat < 256 := c.toNat_lt
  simp [tab, this]
theorem tab_one (p : UInt8 → Bool) : (tab p).all V.oneCell = true := by simp [tab]

def blanksJ (c : UInt8) : Bool := Nat.beq c.toNat 32 || Nat.beq c.toNat 9 || Nat.beq c.toNat 10 || Nat.beq c.toNat 13
def pTrimLeft : List V → St → Option Out
  | [.str s, .str cut], [] => bif cut == [32, 9, 10, 13] then some (.ret (.str (s.dropWhile blanksJ)) (match s with | [] => [] | _ :: _ => [.box 128 (tab blanksJ)])) else none
  | _, _ => none
theorem set_blanks : run prog0 107 [.str [32, 9, 10, 13]] [] = some (.ret (.tup [.agg (tab blanksJ), .bool true]) [.box 128 (tab blanksJ)]) := run_fast (n := 20) (by kernel_rfl)
theorem trimLeft_prim (args : List V) (s : St) (r : Out) (h : pTrimLeft args s = some r) : run prog0 75 args s = some r := by
  unfold pTrimLeft at h
  split at h
  · rename_i s cut
    cases hc : (cut == [32, 9, 10, 13]) with
    | false => rw [hc] at h; cases h
    | true =>
      rw [hc] at h; cases h
      rw [beq_iff_eq] at hc; subst hc
      exact trimLeft_spec (by kernel_rfl) (by kernel_rfl) (by kernel_rfl) (tab_ok _) s _ _ _ set_blanks (tab_one _)
  · cases h
/-- The program, TrimLeft known. -/
noncomputable def prog1 : Prog := over 75 pTrimLeft prog0
theorem mixed : Go.Proofs.Tryz.prog.follows .mixedOrders = true := by kernel_rfl
set_option maxRecDepth 100000 in
theorem sound0 [Globs] (TT : Tabs) : Sound Go.Proofs.Tryz.prog (run prog0) := run_sound (okay TT) mixed
set_option maxRecDepth 100000 in
theorem okay1 [Globs] (TT : Tabs) : ProgOk Go.Proofs.Tryz.prog prog1 := (okay TT).over (primOk_of_run (sound0 TT) trimLeft_prim)
set_option maxRecDepth 100000 in
theorem sound1 [Globs] (TT : Tabs) : Sound Go.Proofs.Tryz.prog (run prog1) := run_sound (okay1 TT) mixed
end J3
