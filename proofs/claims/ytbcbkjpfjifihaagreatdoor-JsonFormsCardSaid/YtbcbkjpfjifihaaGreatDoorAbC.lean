/-  Functions of the runtime's own. -/
import Derived.Test.YtbcbkjpfjifihaaGreatDoorAbB
import Derived.Laws.Externs
import Derived.Lib.Bytealg
import Derived.Lib.Builder
import Derived.Shelf.Strings.Replace
import Derived.Shelf.Strconv.Itoa3
import Derived.Shelf.Unicode.DecodeAny
import Derived.WalkKit
import Derived.ProofKit
import Derived.OpenShut
import Derived.Deep.DeepHandedRow
import Derived.Lib.LaidTab
import Derived.Lib.LaidU8T
import Derived.PinnedBridge
set_option linter.unusedSectionVars false
set_option linter.unusedVariables false
set_option linter.unusedSimpArgs false
namespace Ab
open Go
variable [Globs]

theorem prim_value {P : Program} {f : Nat} {vals : List Value} {w : World} {M : Mem} {R : Hm} {s : St} {v : V} {x : Value} (hc : (callFunc f vals.toArray).run P w = .ok (.value x) w) (hg : Good M R s w) (hx : Rep M R v x) : CallSem P f vals.toArray w (Back M R s w (.ret v s)) := by
  unfold CallSem
  rw [hc]
  exact ⟨x, M, R, rfl, Mem.le_refl M, Hm.le_refl R, hg.start, hx⟩

def pNoEscape : List V → St → Option Out
  | [v], s => some (.ret v s)
  | _, _ => none

theorem noEscape_ok {P : Program} {f : Nat} {fn : Func} (hf : P.funcs[f]? = some fn) (hname : (fn.name == "runtime.NumGoroutine") = false) (hb : fn.body.isNone = true) (hn : Extern.findNext fn = none) (he : Extern.find fn = some Extern.AbiNoEscape.same) : PrimOk P f pNoEscape := by
  intro args s r h M R w vals hg hv
  unfold pNoEscape at h
  split at h
  · cases h
    cases hv with
    | cons _ x _ xs hx hxs =>
      cases hxs
      refine prim_value ?_ hg hx
      rw [run_callFunc_extern hf hname hb hn he]
      show ((Extern.AbiNoEscape.same #[x]).run P w).andThen _ = _
      rw [Lib.run_noEscape]; rfl
  · cases h

def pIndexByteString : List V → St → Option Out
  | [.str b, .int .u8 c], s => some (.ret (.int .i64 (Lib.indexByte b c.toNat.toUInt8)) s)
  | _, _ => none

theorem indexByteString_ok {P : Program} {f : Nat} {fn : Func} (hf : P.funcs[f]? = some fn) (hname : (fn.name == "runtime.NumGoroutine") = false) (hb : fn.body.isNone = true) (hn : Extern.findNext fn = none) (he : Extern.find fn = some Extern.BytealgIndexByte.indexByte) : PrimOk P f pIndexByteString := by
  intro args s r h M R w vals hg hv
  unfold pIndexByteString at h
  split at h
  · rename_i b c
    cases h
    cases hv with
    | cons _ x _ xs hx hxs => cases hxs with
      | cons _ y _ ys hy hys =>
        cases hys
        obtain ⟨t, rfl, rfl⟩ := hx.str_inv
        rw [hy.int_inv]
        refine prim_value ?_ hg (.int _ _)
        rw [run_callFunc_extern hf hname hb hn he]
        show ((Extern.BytealgIndexByte.indexByte #[.string t, .int .u8 c]).run P w).andThen _ = _
        rw [Lib.run_indexByteString]; rfl
  · cases h

end Ab

/-  Functions of Go's library, as the shelf's contracts tell them. -/
namespace Ab
open Go
variable [Globs]

theorem prim_calls {P : Program} {f : Nat} {vals : List Value} {w : World} {M : Mem} {R : Hm} {s : St} {v : V} {x : Value} (he : ∀ args w, (callFunc f args).run P w = .ok (.enter f args) w)
    (hc : Go.Calls P f vals.toArray w fun e w' => e = .returned x ∧ RowKit.Below w.heap.size w w') (hg : Good M R s w) (hx : Rep M R v x) : CallSem P f vals.toArray w (Back M R s w (.ret v s)) := by
  unfold CallSem
  rw [he]
  refine hc.mono ?_
  rintro e w' ⟨rfl, hb⟩
  exact ⟨x, M, R, rfl, Mem.le_refl M, Hm.le_refl R, hg.start.world hb.os hb.tape hb.output hb.size hb.block, hx⟩

/-! decimal numerals -/
def decGo : Nat → Nat → List UInt8 → List UInt8
  | 0, _, acc => acc
  | f + 1, n, acc => bif Nat.blt n 10 then UInt8.ofNat (48 + n) :: acc else decGo f (n / 10) (UInt8.ofNat (48 + n % 10) :: acc)

theorem decGo_eq : ∀ (f n : Nat) (acc : List UInt8), n < 10 ^ (f + 1) → decGo (f + 1) n acc = Lib.decDigits n ++ acc
  | 0, n, acc, h => by
    have hn : n < 10 := h
    have : Nat.blt n 10 = true := by simpa [Nat.blt_eq] using hn
    rw [Lib.decDigits]
    simp [decGo, this, hn]
  | f + 1, n, acc, h => by
    rw [Lib.decDigits]
    by_cases hn : n < 10
    · have : Nat.blt n 10 = true := by simpa [Nat.blt_eq] using hn
      simp [decGo, this, hn]
    · have : Nat.blt n 10 = false := by
        cases hb : Nat.blt n 10 with
        | false => rfl
        | true => rw [Nat.blt_eq] at hb; exact absurd hb hn
      rw [decGo]
      simp only [this, cond_false, hn, dite_false]
      rw [decGo_eq f (n / 10) _ (by rw [Nat.pow_succ] at h; omega)]
      simp

def itoaK : Int → List UInt8
  | .ofNat n => decGo 20 n []
  | .negSucc n => 45 :: decGo 20 (n + 1) []

theorem itoaK_eq (n : Int) (h0 : -9223372036854775808 ≤ n) (h1 : n ≤ 9223372036854775807) : itoaK n = Lib.itoa n := by
  cases n with
  | ofNat n =>
    have h : n < 10 ^ 20 := by have : (n : Int) ≤ 9223372036854775807 := h1; omega
    have h2 : ¬ ((n : Int) < 0) := by omega
    simp [itoaK, decGo_eq 19 _ _ h, Lib.itoa, h2]
  | negSucc n =>
    have h : n + 1 < 10 ^ 20 := by have := h0; rw [Int.negSucc_eq] at this; omega
    simp [itoaK, decGo_eq 19 _ _ h, Lib.itoa]

def inI64 : Int → Bool
  | .ofNat n => Nat.ble n 9223372036854775807
  | .negSucc n => Nat.ble n 9223372036854775807

theorem inI64_iff {n : Int} (h : inI64 n = true) : -9223372036854775808 ≤ n ∧ n ≤ 9223372036854775807 := by
  cases n with
  | ofNat n => have := Nat.le_of_ble_eq_true h; constructor <;> simp <;> omega
  | negSucc n => have := Nat.le_of_ble_eq_true h; rw [Int.negSucc_eq]; omega

def pItoa : List V → St → Option Out
  | [.int .i64 n], s => bif inI64 n then some (.ret (.str (itoaK n)) s) else none
  | _, _ => none

theorem below_regrow (w : World) (k : Nat) (os : Array Go.Obj) : RowKit.Below w.heap.size w (Sort.grow (w.drewN k) os) :=
  ⟨rfl, rfl, rfl, by show w.heap.size ≤ (w.heap ++ os).size; simp, fun b hb => by
    show (w.heap ++ os)[b]? = w.heap[b]?
    rw [Array.getElem?_append_left hb]⟩

theorem itoa_ok {P : Program} {f : Nat} {name : String} (he : ∀ args w, (callFunc f args).run P w = .ok (.enter f args) w)
    (hA : ∀ (n : Int) (w : World), -9223372036854775808 ≤ n → n ≤ 9223372036854775807 → Lib.TabIs P w name .u64 Lib.pow10Tab →
      Go.Calls P f #[.int .i64 n] w fun e w' => e = .returned (.string ⟨(Lib.itoa n).toArray⟩) ∧ ∃ k os, w' = Sort.grow (w.drewN k) os)
    (ht : ∀ M R s w, Good M R s w → Lib.TabIs P w name .u64 Lib.pow10Tab) : PrimOk P f pItoa := by
  intro args s r h M R w vals hg hv
  unfold pItoa at h
  split at h
  · rename_i n
    cases hb : inI64 n with
    | false => rw [hb] at h; cases h
    | true =>
      rw [hb] at h
      obtain ⟨h0, h1⟩ := inI64_iff hb
      cases h
      cases hv with
      | cons _ x _ xs hx hxs =>
        cases hxs
        rw [hx.int_inv, itoaK_eq n h0 h1]
        have hr : Rep M R (.str (Lib.itoa n)) (.string ⟨(Lib.itoa n).toArray⟩) := by have := Rep.str (M := M) (R := R) ⟨(Lib.itoa n).toArray⟩; simpa using this
        refine prim_calls he ((hA n w h0 h1 (ht M R _ w hg)).mono ?_) hg hr
        rintro e w' ⟨rfl, k, os, rfl⟩
        exact ⟨rfl, below_regrow w k os⟩
  · cases h

/-! what is replaced -/
theorem countFrom_le (sub : List UInt8) : ∀ (f : Nat) (s : List UInt8), Lib.countFrom sub f s ≤ f
  | 0, _ => Nat.le_refl _
  | f + 1, s => by
    unfold Lib.countFrom
    split
    · omega
    · have := countFrom_le sub f (s.drop ((Lib.index s sub).toNat + sub.length)); omega

def pReplaceAll : List V → St → Option Out
  | [.str a, .str o, .str n], s => bif Nat.ble a.length 1073741824 && Nat.ble 1 o.length && Nat.ble n.length 1000 then some (.ret (.str (Lib.replaceAll a o n)) s) else none
  | _, _ => none

theorem replaceAll_ok {P : Program} {f : Nat} (he : ∀ args w, (callFunc f args).run P w = .ok (.enter f args) w)
    (hA : ∀ (s o n : ByteArray) (w : World), (∃ M R S, Good M R S w) → s.size < 4294967281 → 1 ≤ o.size → s.size + Lib.countB s o * n.size ≤ 140737488355328 →
      Go.Calls P f #[.string s, .string o, .string n] w fun e w' => e = .returned (.string ⟨(Lib.replaceAll s.data.toList o.data.toList n.data.toList).toArray⟩) ∧ RowKit.Below w.heap.size w w') : PrimOk P f pReplaceAll := by
  intro args s r h M R w vals hg hv
  unfold pReplaceAll at h
  split at h
  · rename_i a o n
    cases hb : (Nat.ble a.length 1073741824 && Nat.ble 1 o.length && Nat.ble n.length 1000) with
    | false => rw [hb] at h; cases h
    | true =>
      rw [hb] at h
      cases h
      simp only [Bool.and_eq_true] at hb
      have h1 := Nat.le_of_ble_eq_true hb.1.1
      have h2 := Nat.le_of_ble_eq_true hb.1.2
      have h3 := Nat.le_of_ble_eq_true hb.2
      cases hv with
      | cons _ x _ xs hx hxs => cases hxs with
        | cons _ y _ ys hy hys => cases hys with
          | cons _ z _ zs hz hzs =>
            cases hzs
            obtain ⟨a', rfl, rfl⟩ := hx.str_inv
            obtain ⟨o', rfl, rfl⟩ := hy.str_inv
            obtain ⟨n', rfl, rfl⟩ := hz.str_inv
            have hr : Rep M R (.str (Lib.replaceAll a'.data.toList o'.data.toList n'.data.toList)) (.string ⟨(Lib.replaceAll a'.data.toList o'.data.toList n'.data.toList).toArray⟩) := by
              have := Rep.str (M := M) (R := R) ⟨(Lib.replaceAll a'.data.toList o'.data.toList n'.data.toList).toArray⟩; simpa using this
            refine prim_calls he (hA a' o' n' w ⟨M, R, _, hg⟩ ?_ ?_ ?_) hg hr
            · rw [Lib.size_eq]; omega
            · rw [Lib.size_eq]; omega
            · have hc : Lib.countB a' o' ≤ a'.data.toList.length + 1 := countFrom_le _ _ _
              have : Lib.countB a' o' * n'.size ≤ (a'.data.toList.length + 1) * 1000 := Nat.mul_le_mul hc (by rw [Lib.size_eq]; exact h3)
              rw [Lib.size_eq]; omega
  · cases h

/-! the next sign of a text -/
def cont (b : UInt8) : Bool := Nat.beq (b.toNat / 64) 2
def decL : List UInt8 → Nat × Nat
  | [] => (65533, 0)
  | b0 :: r =>
    bif Nat.blt b0.toNat 128 then (b0.toNat, 1)
    else bif Nat.beq (b0.toNat / 32) 6 then (match r with
      | b1 :: _ => bif cont b1 && Nat.ble 128 ((b0.toNat % 32) * 64 + b1.toNat % 64) then ((b0.toNat % 32) * 64 + b1.toNat % 64, 2) else (65533, 1)
      | _ => (65533, 1))
    else bif Nat.beq (b0.toNat / 16) 14 then (match r with
      | b1 :: b2 :: _ => bif cont b1 && cont b2 && Nat.ble 2048 ((b0.toNat % 16) * 4096 + (b1.toNat % 64) * 64 + b2.toNat % 64) && Utf8.valid ((b0.toNat % 16) * 4096 + (b1.toNat % 64) * 64 + b2.toNat % 64 : Nat)
          then ((b0.toNat % 16) * 4096 + (b1.toNat % 64) * 64 + b2.toNat % 64, 3) else (65533, 1)
      | _ => (65533, 1))
    else bif Nat.beq (b0.toNat / 8) 30 then (match r with
      | b1 :: b2 :: b3 :: _ => bif cont b1 && cont b2 && cont b3 && Nat.ble 65536 ((b0.toNat % 8) * 262144 + (b1.toNat % 64) * 4096 + (b2.toNat % 64) * 64 + b3.toNat % 64) && Utf8.valid ((b0.toNat % 8) * 262144 + (b1.toNat % 64) * 4096 + (b2.toNat % 64) * 64 + b3.toNat % 64 : Nat)
          then ((b0.toNat % 8) * 262144 + (b1.toNat % 64) * 4096 + (b2.toNat % 64) * 64 + b3.toNat % 64, 4) else (65533, 1)
      | _ => (65533, 1))
    else (65533, 1)

theorem get!_at (s : ByteArray) (k : Nat) : s.get! k = s.data.toList[k]?.getD 0 := by
  obtain ⟨bs⟩ := s
  show bs[k]! = _
  rw [Array.getElem!_eq_getD, Array.getD_eq_getD_getElem?, Array.getElem?_toList]; rfl

theorem decL_eq (s : ByteArray) : Lib.decodeGo s = decL s.data.toList := by
  unfold Lib.decodeGo Utf8.decode
  simp only [Nat.zero_add, get!_at, Lib.size_eq]
  generalize s.data.toList = l
  cases l with
  | nil => rfl
  | cons b0 r =>
    simp only [List.length_cons, Nat.add_eq_zero_iff, Nat.succ_ne_self, and_false, if_false, List.getElem?_cons_zero, Option.getD_some, decL]
    have hblt : Nat.blt b0.toNat 128 = decide (b0.toNat < 128) := by
      rw [Bool.eq_iff_iff]; simp [Nat.blt_eq]
    have hbeq : ∀ a b : Nat, Nat.beq a b = decide (a = b) := by intro a b; rw [Bool.eq_iff_iff]; simp
    have hble : ∀ a b : Nat, Nat.ble a b = decide (a ≤ b) := by intro a b; rw [Bool.eq_iff_iff]; simp
    simp only [hblt, hbeq, hble, cont, Utf8.runeError]
    by_cases h0 : b0.toNat < 128
    · simp [h0]
    · simp only [h0, if_false, decide_false, cond_false]
      by_cases h1 : b0.toNat / 32 = 6
      · have n1 : ¬ b0.toNat / 16 = 14 := by omega
        have n2 : ¬ b0.toNat / 8 = 30 := by omega
        simp only [h1, n1, n2, beq_self_eq_true, Bool.true_and, decide_true, cond_true, Nat.reduceBEq, beq_iff_eq, Bool.false_and, Bool.and_eq_true, decide_eq_true_eq, false_and, if_false]
        cases r with
        | nil => simp
        | cons b1 r => by_cases h : b1.toNat / 64 = 2 <;> by_cases g : 128 ≤ (b0.toNat % 32) * 64 + b1.toNat % 64 <;> simp [h, g]
      · by_cases h2 : b0.toNat / 16 = 14
        · have n2 : ¬ b0.toNat / 8 = 30 := by omega
          simp only [h1, h2, n2, beq_self_eq_true, Bool.true_and, decide_true, decide_false, cond_true, cond_false, beq_iff_eq, Bool.and_eq_true, decide_eq_true_eq, false_and, true_and, if_false]
          rcases r with _ | ⟨b1, _ | ⟨b2, r⟩⟩
          · simp
          · simp
          · by_cases h : b1.toNat / 64 = 2 <;> by_cases h' : b2.toNat / 64 = 2 <;> by_cases g : 2048 ≤ (b0.toNat % 16) * 4096 + (b1.toNat % 64) * 64 + b2.toNat % 64 <;>
              by_cases g' : Utf8.valid (((b0.toNat % 16) * 4096 + (b1.toNat % 64) * 64 + b2.toNat % 64 : Nat) : Int) = true <;> simp_all
        · by_cases h3 : b0.toNat / 8 = 30
          · simp only [h1, h2, h3, beq_self_eq_true, Bool.true_and, decide_true, decide_false, cond_true, cond_false, beq_iff_eq, Bool.and_eq_true, decide_eq_true_eq, false_and, true_and, if_false]
            rcases r with _ | ⟨b1, _ | ⟨b2, _ | ⟨b3, r⟩⟩⟩
            · simp
            · simp
            · simp
            · by_cases h : b1.toNat / 64 = 2 <;> by_cases h' : b2.toNat / 64 = 2 <;> by_cases h'' : b3.toNat / 64 = 2 <;>
                by_cases g : 65536 ≤ (b0.toNat % 8) * 262144 + (b1.toNat % 64) * 4096 + (b2.toNat % 64) * 64 + b3.toNat % 64 <;>
                by_cases g' : Utf8.valid (((b0.toNat % 8) * 262144 + (b1.toNat % 64) * 4096 + (b2.toNat % 64) * 64 + b3.toNat % 64 : Nat) : Int) = true <;> simp_all
          · simp [h1, h2, h3]

def pDecode : List V → St → Option Out
  | [.str b], s => some (.ret (.tup [.int .i32 (decL b).1, .int .i64 (decL b).2]) s)
  | _, _ => none

theorem decode_ok {P : Program} {f : Nat} (he : ∀ args w, (callFunc f args).run P w = .ok (.enter f args) w) {g3 g4 : Nat}
    (hA : ∀ (s : ByteArray) (w : World), Lib.Utf8Tabs g3 g4 w → Go.Calls P f #[.string s] w fun e w' => e = .returned (.tuple #[.int .i32 (Lib.decodeGo s).1, .int .i64 (Lib.decodeGo s).2]) ∧ RowKit.Below w.heap.size w w')
    (ht : ∀ M R s w, Good M R s w → Lib.Utf8Tabs g3 g4 w) : PrimOk P f pDecode := by
  intro args s r h M R w vals hg hv
  unfold pDecode at h
  split at h
  · cases h
    cases hv with
    | cons _ x _ xs hx hxs =>
      cases hxs
      obtain ⟨a, rfl, rfl⟩ := hx.str_inv
      have hr : Rep M R (.tup [.int .i32 (decL a.data.toList).1, .int .i64 (decL a.data.toList).2]) (.tuple #[.int .i32 (Lib.decodeGo a).1, .int .i64 (Lib.decodeGo a).2]) := by
        rw [decL_eq]; exact .tup _ [_, _] (.cons _ _ _ _ (.int _ _) (.cons _ _ _ _ (.int _ _) .nil))
      exact prim_calls he (hA a w (ht M R _ w hg)) hg hr
  · cases h

/-! floats -/
def pF64bits : List V → St → Option Out
  | [.flt .f64 b], s => some (.ret (.int .u64 b) s)
  | _, _ => none
def pF64from : List V → St → Option Out
  | [.int .u64 n], s => some (.ret (.flt .f64 n.toNat) s)
  | _, _ => none
def pTrunc : List V → St → Option Out
  | [.flt .f64 x], s => match FloatKind.f64.decode x with
    | .nan _ t => if FloatKind.f64.format.quiet t = t then some (.ret (.flt .f64 x) s) else none
    | d => some (.ret (.flt .f64 (FloatKind.f64.encode (d.integral .zero))) s)
  | _, _ => none

theorem prim_extern {P : Program} {f : Nat} {fn : Func} {sem : Array Value → Sem Value} (hf : P.funcs[f]? = some fn) (hname : (fn.name == "runtime.NumGoroutine") = false) (hb : fn.body.isNone = true) (hn : Extern.findNext fn = none) (he : Extern.find fn = some sem)
    {vals : List Value} {w : World} {x : Value} (hs : (sem vals.toArray).run P w = .ok x w) : (callFunc f vals.toArray).run P w = .ok (.value x) w := by
  rw [run_callFunc_extern hf hname hb hn he, hs]; rfl

theorem f64bits_ok {P : Program} {f : Nat} {fn : Func} (hf : P.funcs[f]? = some fn) (hname : (fn.name == "runtime.NumGoroutine") = false) (hb : fn.body.isNone = true) (hn : Extern.findNext fn = none) (he : Extern.find fn = some Extern.MathFloatBits.float64bits) : PrimOk P f pF64bits := by
  intro args s r h M R w vals hg hv
  unfold pF64bits at h
  split at h
  · cases h
    cases hv with
    | cons _ x _ xs hx hxs =>
      cases hxs
      rw [hx.flt_inv]
      exact prim_value (prim_extern hf hname hb hn he rfl) hg (.int _ _)
  · cases h

theorem f64from_ok {P : Program} {f : Nat} {fn : Func} (hf : P.funcs[f]? = some fn) (hname : (fn.name == "runtime.NumGoroutine") = false) (hb : fn.body.isNone = true) (hn : Extern.findNext fn = none) (he : Extern.find fn = some Extern.MathFloatBits.float64frombits) : PrimOk P f pF64from := by
  intro args s r h M R w vals hg hv
  unfold pF64from at h
  split at h
  · cases h
    cases hv with
    | cons _ x _ xs hx hxs =>
      cases hxs
      rw [hx.int_inv]
      exact prim_value (prim_extern hf hname hb hn he rfl) hg (.flt _ _)
  · cases h

theorem trunc_nan {nm : String} {z : Nat} {a : Bool} {t : Nat} (hd : FloatKind.f64.decode z = .nan a t) (hq : FloatKind.f64.format.quiet t = t) : Extern.MathFloor.toIntegral nm .zero #[.float .f64 z] = pure (.float .f64 z) := by
  show (match FloatKind.f64.decode z with
    | .nan s t => if FloatKind.f64.format.quiet t = t then pure (Value.float .f64 z) else _
    | d => (pure (Value.float .f64 (FloatKind.f64.encode (d.integral .zero))) : Sem Value)) = _
  rw [hd]
  exact if_pos hq
theorem trunc_num {nm : String} {z : Nat} (hd : ∀ a t, FloatKind.f64.decode z ≠ .nan a t) : Extern.MathFloor.toIntegral nm .zero #[.float .f64 z] = pure (.float .f64 (FloatKind.f64.encode ((FloatKind.f64.decode z).integral .zero))) := by
  show (match FloatKind.f64.decode z with
    | .nan s t => _
    | d => (pure (Value.float .f64 (FloatKind.f64.encode (d.integral .zero))) : Sem Value)) = _
  cases h : FloatKind.f64.decode z with
  | nan a t => exact absurd h (hd a t)
  | _ => rfl

theorem trunc_ok {P : Program} {f : Nat} {fn : Func} {nm : String} (hf : P.funcs[f]? = some fn) (hname : (fn.name == "runtime.NumGoroutine") = false) (hb : fn.body.isNone = true) (hn : Extern.findNext fn = none) (he : Extern.find fn = some (Extern.MathFloor.toIntegral nm .zero)) : PrimOk P f pTrunc := by
  intro args s r h M R w vals hg hv
  unfold pTrunc at h
  split at h
  · rename_i z
    cases hv with
    | cons _ x _ xs hx hxs =>
      cases hxs
      rw [hx.flt_inv]
      split at h
      · rename_i a t hd
        split at h
        · rename_i hq
          cases h
          refine prim_value (prim_extern hf hname hb hn he ?_) hg (.flt _ _)
          show (Extern.MathFloor.toIntegral nm .zero #[.float .f64 z]).run P w = _
          rw [trunc_nan hd hq]; rfl
        · cases h
      · rename_i d hd
        cases h
        refine prim_value (prim_extern hf hname hb hn he ?_) hg (.flt _ _)
        show (Extern.MathFloor.toIntegral nm .zero #[.float .f64 z]).run P w = _
        rw [trunc_num hd]; rfl
  · cases h

end Ab

/-  From a run of the abstract machine to a row. -/
namespace Ab
open Go Go.ChangeShapes Go.RowKit

/-! ### programs as trees -/
inductive T where
  | leaf
  | node (l : T) (k : Nat) (v : FK) (r : T)
noncomputable def T.find (t : T) : Prog := T.rec (fun _ => none) (fun _ k v _ ihl ihr n => Bool.rec (Bool.rec (ihr n) (some v) (Nat.beq n k)) (ihl n) (Nat.blt n k)) t
def T.All (p : Nat → FK → Prop) : T → Prop
  | .leaf => True
  | .node l k v r => l.All p ∧ p k v ∧ r.All p
theorem T.all_leaf {p : Nat → FK → Prop} : T.leaf.All p := trivial
theorem T.all_node {p : Nat → FK → Prop} {l r : T} {k : Nat} {v : FK} (hl : l.All p) (hv : p k v) (hr : r.All p) : (T.node l k v r).All p := ⟨hl, hv, hr⟩
theorem T.find_all {p : Nat → FK → Prop} : ∀ {t : T}, t.All p → ∀ {n v}, t.find n = some v → p n v
  | .leaf, _, n, v, h => by cases h
  | .node l k x r, ha, n, v, h => by
    have h' : (bif Nat.blt n k then l.find n else bif Nat.beq n k then some x else r.find n) = some v := by
      rw [← h]
      show _ = (Bool.rec (motive := fun _ => Option FK) (Bool.rec (motive := fun _ => Option FK) (r.find n) (some x) (Nat.beq n k)) (l.find n) (Nat.blt n k))
      cases Nat.blt n k <;> cases Nat.beq n k <;> rfl
    cases hb : Nat.blt n k with
    | true => rw [hb] at h'; exact T.find_all ha.1 h'
    | false =>
      rw [hb, cond_false] at h'
      cases he : Nat.beq n k with
      | true =>
        rw [he] at h'
        cases h'
        have := Nat.eq_of_beq_eq_true he; subst this
        exact ha.2.1
      | false => rw [he] at h'; exact T.find_all ha.2.2 h'

section
variable [Globs]
/-- An entry that is sound. -/
def EntryOk (P : Program) (f : Nat) : FK → Prop
  | .code fn => ∃ func cl kp cv lv, P.funcs[f]? = some func ∧ (func.name == "runtime.NumGoroutine") = false ∧ trFn P cl kp cv lv func = some fn
  | .guard G => GuardOk P f G
  | .prim p => PrimOk P f p
theorem progOk_of {P : Program} {Pr : Prog} (h : ∀ f x, Pr f = some x → EntryOk P f x) : ProgOk P Pr :=
  ⟨fun f fn hf => h f _ hf, fun f G hf => h f _ hf, fun f p hf => h f _ hf⟩
theorem progOk_tree {P : Program} {t : T} (h : t.All (EntryOk P)) : ProgOk P t.find := progOk_of fun _ _ hf => T.find_all h hf

/-- A function that is known by what it tells, over a program. -/
def over (f : Nat) (p : List V → St → Option Out) (Pr : Prog) : Prog := fun n => bif Nat.beq n f then some (.prim p) else Pr n
theorem ProgOk.over {P : Program} {Pr : Prog} (h : ProgOk P Pr) {f : Nat} {p : List V → St → Option Out} (hp : PrimOk P f p) : ProgOk P (over f p Pr) := by
  refine progOk_of fun g x hx => ?_
  unfold Ab.over at hx
  cases hb : Nat.beq g f with
  | true =>
    rw [hb] at hx; cases hx
    have := Nat.eq_of_beq_eq_true hb; subst this
    exact hp
  | false =>
    rw [hb] at hx
    cases x with
    | code fn => exact h.code g fn hx
    | guard G => exact h.guard g G hx
    | prim p => exact h.prim g p hx
theorem primOk_of_run {P : Program} {Pr : Prog} (hs : Sound P (run Pr)) {f : Nat} {p : List V → St → Option Out} (h : ∀ args s r, p args s = some r → run Pr f args s = some r) : PrimOk P f p :=
  fun args s r hp => hs f args s r (h _ _ _ hp)

/-- A law's run, in the model. -/
theorem calls_of_run {P : Program} {Pr : Prog} {f : Nat} {args : List Value} {W : World} {M : Mem} {vs : List V} {s' : St} (hs : Sound P (run Pr)) (he : ∀ args w, (callFunc f args).run P w = .ok (.enter f args) w)
    (hg : Good M R0 [] W) (hv : RepL M R0 vs args) (hr : run Pr f vs [] = some (.ret (.bool true) s')) :
    Go.Calls P f args.toArray W fun e W' => e = .returned (.bool true) ∧ Below W.heap.size W W' := by
  have h := hs f vs [] _ hr M R0 W args hg hv
  unfold CallSem at h
  rw [he] at h
  refine h.mono ?_
  rintro e W' ⟨x, M', R', rfl, _, _, hi, hx⟩
  rw [hx.bool_inv]
  refine ⟨rfl, hi.cxt.os, hi.cxt.tape, hi.cxt.output, hi.cxt.size, fun b hb => hi.cxt.keep b hb fun h hl => ?_⟩
  replace hl : blk R0 h (St.at [] h) = some b := hl
  rw [at_nil] at hl
  cases hl
end

/-! ### tables -/
/-- Some blocks of a world, as tables. -/
@[reducible] def globsOf (W : World) (bs : List Nat) : Globs where
  mg b o := if bs.contains b then W.cell? ⟨b, o, none⟩ else none
  pin g := match W.heap[g]? with
    | some (.cells cs _ _) => if bs.contains g = true ∧ (cs[0]?).isSome = true then some cs else none
    | _ => none
  cov g cs h := by
    split at h
    · rename_i cs' e f hg
      split at h
      · rename_i hc
        cases h
        obtain ⟨x, hx⟩ := Option.isSome_iff_exists.1 hc.2
        refine ⟨x, ?_⟩
        simp only [hc.1, if_true, World.cell?, hg, hx]
        simp
      · cases h
    · cases h

theorem good_start (W : World) (bs : List Nat) : @Good (globsOf W bs) (globsOf W bs).mg R0 [] W := by
  letI := globsOf W bs
  refine ⟨?_, ?_, ?_, ?_, ?_, ?_, fun _ _ _ h => h, ?_⟩
  · intro b o x h
    show W.cell? ⟨b, o, none⟩ = some x
    have h' : (if bs.contains b then W.cell? ⟨b, o, none⟩ else none) = some x := h
    split at h'
    · exact h'
    · cases h'
  · intro h; rw [at_nil]; trivial
  · intro h h' b _ hb; rw [at_nil] at hb; cases hb
  · intro h b o hb; rw [at_nil] at hb; cases hb
  · intro h v x hx; cases hx
  · intro h v hg; rw [at_nil] at hg; cases hg
  · intro g cs h
    have h' : (match W.heap[g]? with
      | some (.cells cs _ _) => if bs.contains g = true ∧ (cs[0]?).isSome = true then some cs else none
      | _ => none) = some cs := h
    split at h'
    · rename_i cs' e f hg
      split at h'
      · cases h'; exact ⟨e, f, hg⟩
      · cases h'
    · cases h'

/-- What a table's cell holds, later on. -/
theorem tab_cell {W : World} {bs : List Nat} {b o : Nat} {x : Value} (hb : bs.contains b = true) (hx : W.cell? ⟨b, o, none⟩ = some x) {M R s w} (hg : @Good (globsOf W bs) M R s w) : w.cell? ⟨b, o, none⟩ = some x := by
  letI := globsOf W bs
  refine hg.mem _ _ _ (hg.glob b o x ?_)
  show (if bs.contains b then W.cell? ⟨b, o, none⟩ else none) = some x
  rw [hb]; exact hx

theorem tab_tabIs {P : Program} {W : World} {bs : List Nat} {b : Nat} {name : String} {k : IntKind} {z : Int} {zs : List Int} (hn : P.globalNamed name = some b) (hb : bs.contains b = true) (h : Lib.TabIs P W name k (z :: zs))
    {M R s w} (hg : @Good (globsOf W bs) M R s w) : Lib.TabIs P w name k (z :: zs) := by
  letI := globsOf W bs
  unfold Lib.TabIs World.var? at h ⊢
  rw [hn] at h ⊢
  simp only [Option.bind_some] at h ⊢
  split at h
  · rename_i cs e f hh
    cases h
    obtain ⟨e', f', h2⟩ := hg.pins b ((z :: zs).map fun z => Value.int k z).toArray (by
      show (match W.heap[b]? with
        | some (.cells cs _ _) => if bs.contains b = true ∧ (cs[0]?).isSome = true then some cs else none
        | _ => none) = _
      rw [hh]; simp only; rw [if_pos ⟨hb, by simp⟩])
    rw [h2]
  · cases h

theorem tab_utf8 {W : World} {bs : List Nat} {g3 g4 : Nat} (h3 : bs.contains g3 = true) (h4 : bs.contains g4 = true) (h : Lib.Utf8Tabs g3 g4 W) {M R s w} (hg : @Good (globsOf W bs) M R s w) : Lib.Utf8Tabs g3 g4 w :=
  ⟨fun c hc => tab_cell h3 (h.1 c hc) hg, fun i hi => ⟨tab_cell h4 (h.2 i hi).1 hg, tab_cell h4 (h.2 i hi).2 hg⟩⟩

theorem tabIs_of_reads {P : Program} {W : World} {name : String} {k : IntKind} {zs : List Int} {g : Nat} {t e : TypeId} {n : Nat}
    (hg : P.globalNamed name = some g) (hty : (P.globals[g]?).map (·.type) = some t) (ht : P.underlying t = some (.array n e)) (he : P.underlying e = some (.int k)) (hce : P.cellsOf e = 1) (hct : P.cellsOf t = n)
    (h : Lib.VarReads P W name (Lib.tabData k zs)) : Lib.TabIs P W name k zs := by
  obtain ⟨g', t', cs, fuel, p, hg', ht', hvar, hd⟩ := h
  obtain rfl := Option.some.inj (hg.symm.trans hg')
  obtain rfl := Option.some.inj (hty.symm.trans ht')
  unfold Lib.TabIs
  rw [hvar, ← Lib.cells_of_tab ht he hce hct hd]

/-! ### the row -/
section
variable {H : Type} {enc : TypeId × Value → H} {P : Program}
theorem frozen_old {W W' : World} (h : Below W.heap.size W W') {a : Addr} (ha : a.block < W.heap.size) : W'.frozen? a = W.frozen? a := by
  unfold World.frozen?
  rw [h.block _ ha]

/-- It returns true; what it was handed reads as before. -/
theorem post_true {f : Func} {s : ChangeSpec} {apart fresh handsOn again : Bool} {W W' : World} {args : Array Value} {ds gs : List (DataW H)} {before : List MemPlace} {tb : TypeId}
    (hW : DataW.Whole enc P f.params.toList s.vars apart W args.toList ds gs before) (hb : Below W.heap.size W W') (hv : s.vars = []) (hrt : f.resultTypes = #[tb]) (htb : P.underlying tb = some .bool)
    (hfn : (s.fn H ds).results = [.lit (.bool true)] ∧ (s.fn H ds).args = ds ∧ (s.fn H ds).vars = [])
    (hargs : ∀ sp : Nat → Bool, (∀ p ∈ before, sp p.block = true) → DataW.TrodAll enc P W' 0 sp true f.params.toList args.toList ds before) :
    s.post enc P f apart fresh handsOn again W args (.bool true) W' := by
  have hgs : gs = [] := by
    obtain ⟨p, q, _, hV, _⟩ := hW
    rw [hv] at hV
    exact (trodVars_none hV).1
  subst hgs
  have hold : ∀ p ∈ before, (fun b => decide (b < W.heap.size)) p.block = true := fun p hp => by simpa using hW.lt p hp
  have hres : ∀ (b : Nat) (sp : Nat → Bool) (hd : Bool), DataW.TrodAll enc P W' b sp hd f.resultTypes.toList ((Value.bool true).resultList f.resultTypes.size) (s.fn H (ds ++ [])).results [] := by
    intro b sp hd
    rw [List.append_nil, hfn.1, hrt]
    exact trodAll_cons_mk (shut_bool htb _) trodAll_mk0
  have hvars : ∀ sp : Nat → Bool, DataW.TrodVars enc P W' sp s.vars (s.fn H (ds ++ [])).vars [] := by
    intro sp
    rw [List.append_nil, hfn.2.2, hv]
    rfl
  have hargs' : ∀ sp : Nat → Bool, (∀ p ∈ before, sp p.block = true) → DataW.TrodAll enc P W' 0 sp true f.params.toList args.toList (s.fn H (ds ++ [])).args before := by
    intro sp h
    rw [List.append_nil, hfn.2.1]
    exact hargs sp h
  refine ⟨ds, [], before, [], before, [], hW, hres _ _ _, hargs' _ hold, hvars _, World.keptBut_mono (fun p hp => ⟨hp, ?_⟩) (hb.frame (· ∈ before)), fun _ => ?_⟩
  · exact Or.inr (by simpa using hp)
  · have hlt := hW.lt
    obtain ⟨_, _, _, _, _, hz, hn⟩ := hW
    refine ⟨ok_one hrt rfl (RowKit.okWide_bool_mk htb _), _, _, ([] ++ before) ++ [], ⟨[] ++ before, [], trodAll_append (hargs' _ (fun _ _ => rfl)) (hres _ _ _), hvars _, rfl, ?_, ?_⟩, ?_⟩
    · intro b off hp
      have hp' : MemPlace.cell b off ∈ before := by simpa using hp
      rw [frozen_old hb (show (⟨b, off, none⟩ : Addr).block < _ from hlt (MemPlace.cell b off) hp')]
      exact hz b off hp'
    · intro ha
      simpa using hn ha
    · intro p hp _
      simpa using hp
end
end Ab
