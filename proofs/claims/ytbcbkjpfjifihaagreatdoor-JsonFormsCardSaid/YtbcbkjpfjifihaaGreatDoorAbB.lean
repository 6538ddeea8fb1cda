/-  Conversions of bytes; all operations but calls. -/
import Derived.Test.YtbcbkjpfjifihaaGreatDoorAbA
import Derived.Laws.BytesArg
import Derived.Lib.ConvBytes
import Derived.Lib.UnsafeStr
import Derived.Lib.Builder
import Derived.Recover
set_option linter.unusedSectionVars false
set_option linter.unusedVariables false
set_option linter.unusedSimpArgs false
namespace Ab
open Go
variable [Globs]

theorem bytesOf_rep {M R} : ∀ {vs : List V} {xs : List Value} {b : List UInt8}, bytesOf vs = some b → RepL M R vs xs → ∃ ns : List Int, xs = ns.map (Value.int .u8) ∧ b = ns.map fun n => UInt8.ofNat n.toNat
  | [], _, b, h, .nil => by simp only [bytesOf, Option.some.injEq] at h; subst h; exact ⟨[], rfl, rfl⟩
  | v :: vs, _, b, h, .cons _ x _ xs hv hs => by
    unfold bytesOf at h
    split at h
    · rename_i he; cases he
    · rename_i n r he
      cases he
      simp only [Option.map_eq_some_iff] at h
      obtain ⟨b', hb', rfl⟩ := h
      obtain ⟨ns, h1, h2⟩ := bytesOf_rep hb' hs
      exact ⟨n :: ns, by rw [hv.int_inv, h1]; rfl, by rw [h2]; rfl⟩
    · cases h

theorem bytesOf_cells {vs : List V} {b : List UInt8} (h : bytesOf vs = some b) : (vs.map V.cells).flatten = vs ∧ ∀ v ∈ vs, v.cells.length = 1 := by
  induction vs generalizing b with
  | nil => exact ⟨rfl, by simp⟩
  | cons v vs ih =>
    unfold bytesOf at h
    split at h
    · rename_i he; cases he
    · rename_i n r he
      cases he
      simp only [Option.map_eq_some_iff] at h
      obtain ⟨b', hb', _⟩ := h
      obtain ⟨h1, h2⟩ := ih hb'
      refine ⟨by simp [V.cells, h1], ?_⟩
      intro v hv
      simp only [List.mem_cons] at hv
      rcases hv with rfl | hv
      · rfl
      · exact h2 v hv
    · cases h

section
variable {P : Program} {c : Ctx} {M : Mem} {R : Hm} {S : St} {w : World}

theorem op_toStr_sl (hi : Inv c M R S w) {s d e : TypeId} {ex : Bool} {xs : List V} {b : List UInt8} {x : Value} (hs : P.underlying s = some (.slice e)) (he : P.underlying e = some (.int .u8)) (hd : P.underlying d = some .string)
    (hx : Rep M R (.sl ex xs) x) (hb : bytesOf xs = some b) : VOk P c M R (convert s d x) w (.str b) S := by
  cases hx with
  | sl0 _ a cap h0 =>
    simp only [bytesOf, Option.some.injEq] at hb; subst hb
    cases a with
    | none => exact VOk.pure hi (run_convert_bytes_nil w s e hs he 0 cap d hd) (by have := Rep.str (M := M) (R := R) ByteArray.empty; simpa using this)
    | some a =>
      refine VOk.pure hi (x := .string ByteArray.empty) ?_ (by have := Rep.str (M := M) (R := R) ByteArray.empty; simpa using this)
      rw [run_convert_bytes_string w s d e _ 0 cap hs he hd, run_bytesToString w _ 0 cap [] (by simp [loadCells, loadCellsFrom])]
      rfl
  | sl _ _ bl off n cap hne hc h0 ha =>
    obtain ⟨hfl, h1⟩ := bytesOf_cells hb
    have hn : n = 1 := by
      cases ha with
      | nil => exact absurd rfl hne
      | cons _ _ _ v vs hl _ _ => rw [← hl]; exact h1 v (by simp)
    subst hn
    obtain ⟨vals, h2, h3, h4⟩ := ha.vals
    rw [hfl] at h2
    obtain ⟨ns, rfl, rfl⟩ := bytesOf_rep hb h2
    have hl : ns.length = xs.length := by simpa using h3
    refine VOk.pure hi (run_convert_bytes_arg w s e hs he bl off xs.length cap ns hl (fun i hil => ?_) d hd) (by have := Rep.str (M := M) (R := R) (strOfNums ns); simpa [strOfNums_data] using this)
    refine hi.good.mem _ _ _ (h4 i _ ?_)
    rw [List.getElem?_map, List.getElem?_eq_getElem (by omega)]
    simp [List.getD, List.getElem?_eq_getElem (show i < ns.length by omega)]

theorem rowV_flat : ∀ (rows : List (List V)) {b : List UInt8}, (∀ r ∈ rows, r.length = 1) → bytesOf (rows.map (rowV false)) = some b → rows.flatten = rows.map (rowV false)
  | [], _, _, _ => rfl
  | r :: rows, b, hl, hb => by
    have h1 := hl r (by simp)
    match r, h1 with
    | [v], _ =>
      simp only [List.map_cons, List.flatten_cons, rowV, cond_false, List.headD_cons] at hb ⊢
      unfold bytesOf at hb
      split at hb
      · rename_i he; cases he
      · rename_i n r he
        simp only [List.cons.injEq] at he
        simp only [Option.map_eq_some_iff] at hb
        obtain ⟨b', hb', _⟩ := hb
        rw [← he.2] at hb'
        rw [rowV_flat rows (fun r hr => hl r (by simp [hr])) hb']
        rfl
      · cases hb

theorem op_toStr_gs (hi : Inv c M R S w) {s d e : TypeId} {h ver off len v0 : Nat} {ag : Bool} {rows : List (List V)} {b : List UInt8} {x : Value} (hs : P.underlying s = some (.slice e)) (he : P.underlying e = some (.int .u8)) (hd : P.underlying d = some .string)
    (hx : Rep M R (.gs h ver off len) x) {ty : Nat} (hat : S.at h = .grow ty v0 ag 1 rows) (hv : v0 = ver) (hle : off + len ≤ rows.length) (hb : bytesOf (((rows.drop off).take len).map (rowV false)) = some b) : VOk P c M R (convert s d x) w (.str b) S := by
  subst hv
  have ho := hi.good.objs h
  rw [hat] at ho
  obtain ⟨bl, cap, vals, hR, hh, h4, h5, h6, hrl, h7⟩ := ho
  cases hx with
  | gs0 _ b' n' hR' => rw [hR] at hR'; cases hR'; exact absurd h7.2 (Nat.lt_irrefl _)
  | gs _ _ _ _ b' c' n' hR' hc' _ =>
    rw [hR] at hR'; cases hR'
    have hfl := rowV_flat ((rows.drop off).take len) (fun r hr => h6 r (List.mem_of_mem_drop (List.mem_of_mem_take hr))) hb
    -- the cells
    have e1 : ∀ (l : List (List V)) (k : Nat), (∀ r ∈ l, r.length = 1) → (l.drop k).flatten = l.flatten.drop k ∧ (l.take k).flatten = l.flatten.take k := by
      intro l
      induction l with
      | nil => intro k _; simp
      | cons r l ih =>
        intro k hl
        have hr := hl r (by simp)
        have hl' : ∀ r ∈ l, r.length = 1 := fun q hq => hl q (by simp [hq])
        cases k with
        | zero => simp
        | succ k =>
          match r, hr with
          | [v], _ => simp [(ih k hl').1, (ih k hl').2]
    have hcells : RepL M R (((rows.drop off).take len).map (rowV false)) (((vals.toList.take rows.length).drop off).take len) := by
      rw [← hfl, (e1 _ _ (fun r hr => h6 r (List.mem_of_mem_drop hr))).2, (e1 _ _ h6).1]
      have := (hrl.drop off).take len
      simpa using this
    obtain ⟨ns, hns, rfl⟩ := bytesOf_rep hb hcells
    have hl : ns.length = len := by
      have := congrArg List.length hns
      simp only [List.length_map, List.length_take, List.length_drop, Array.length_toList] at this
      omega
    refine VOk.pure hi (run_convert_bytes_arg w s e hs he bl (off * 1) len (cap - off) ns hl (fun i hil => ?_) d hd) (by have := Rep.str (M := M) (R := R) (strOfNums ns); simpa [strOfNums_data] using this)
    rw [cells_get hh]
    have : (((vals.toList.take rows.length).drop off).take len)[i]? = (ns.map (Value.int .u8))[i]? := by rw [hns]
    rw [List.getElem?_take, if_pos hil, List.getElem?_drop, List.getElem?_take, if_pos (by omega), List.getElem?_map, List.getElem?_eq_getElem (show i < ns.length by omega)] at this
    rw [Nat.mul_one, this]
    simp [List.getD, List.getElem?_eq_getElem (show i < ns.length by omega)]

theorem op_toStr_nil (hi : Inv c M R S w) {s d e : TypeId} {h ver off : Nat} {ag : Bool} {sz : Nat} {x : Value} (hs : P.underlying s = some (.slice e)) (he : P.underlying e = some (.int .u8)) (hd : P.underlying d = some .string)
    (hx : Rep M R (.gs h ver off 0) x) (hat : S.at h = .nilg ag sz) : VOk P c M R (convert s d x) w (.str []) S := by
  have key : ∀ (a : Option Addr) (cap : Nat), (convert s d (.slice a 0 cap)).run P w = .ok (.string ByteArray.empty) w := by
    intro a cap
    cases a with
    | none => exact run_convert_bytes_nil w s e hs he 0 cap d hd
    | some a =>
      rw [run_convert_bytes_string w s d e _ 0 cap hs he hd, run_bytesToString w _ 0 cap [] (by simp [loadCells, loadCellsFrom])]
      rfl
  have hst : Rep M R (.str []) (.string ByteArray.empty) := by have := Rep.str (M := M) (R := R) ByteArray.empty; simpa using this
  cases hx with
  | gs0 => exact VOk.pure hi (key _ _) hst
  | gs => exact VOk.pure hi (key _ _) hst

theorem op_toBytes (hi : Inv c M R S w) {s d e : TypeId} {b : List UInt8} {x : Value} (hs : P.underlying s = some .string) (hd : P.underlying d = some (.slice e)) (he : P.underlying e = some (.int .u8))
    (hx : Rep M R (.str b) x) : VOk P c M R (convert s d x) w (.sl false (b.map fun x => .int .u8 x.toNat)) S := by
  obtain ⟨st, rfl, rfl⟩ := hx.str_inv
  have hrun := Lib.run_convert_string_bytes w s d e st hs hd he
  have hnew := Lib.bytesWorld_at_new w e st
  have hM := Mem.le_put (Lib.bytesCells w e st).toList (hi.good.mem_new w.heap.size (Nat.le_refl _))
  have hinv : Inv c (M.put w.heap.size (Lib.bytesCells w e st).toList) R S (Lib.bytesWorld w e st) := by
    refine hi.upd S.length ?_ ?_ ?_ (by rw [Lib.bytesWorld_size]; omega) hM (Hm.le_refl R) (fun b hb _ => Lib.bytesWorld_at_old w e st b hb) (fun _ _ => rfl) ?_ (fun _ _ _ h => .inl h) (Nat.le_refl _) ?_ ?_ ?_
    · simp [Lib.bytesWorld, World.freeze, World.alloc, World.drew, -World.alloc_eq, -World.drew_eq]
    · simp [Lib.bytesWorld, World.freeze, World.alloc, World.drew, -World.alloc_eq, -World.drew_eq]
    · simp [Lib.bytesWorld, World.freeze, World.alloc, World.drew, -World.alloc_eq, -World.drew_eq]
    · intro b o x hx
      simp only [Mem.put] at hx
      split at hx
      · rename_i e'; subst e'
        refine .inr ⟨Nat.le_refl _, ?_, by rw [at_len]; simp [blk]⟩
        rw [cells_get hnew]; exact hx
      · exact .inl hx
    · rw [at_len]; trivial
    · rw [at_len]; intro b hb; simp [blk] at hb
    · rw [at_len]; intro v h; cases h
  refine ⟨_, _, _, R, hrun, hM, Hm.le_refl R, hinv, ?_⟩
  have hcap := grownCap_ge w st.size 0 e
  have hsz : st.data.toList.length = st.size := Array.length_toList
  by_cases h0 : st.data.toList = []
  · have : st.size = 0 := by rw [← hsz, h0]; rfl
    rw [h0, this]
    exact .sl0 false _ _ (fun h => by cases h)
  · have := Rep.sl (M := M.put w.heap.size (Lib.bytesCells w e st).toList) (R := R) false (st.data.toList.map fun x => V.int .u8 x.toNat) w.heap.size 0 1 (grownCap w st.size 0 e) (by simpa using h0) (by simp only [List.length_map]; omega) (fun h => by cases h)
      (RepEl.of_vals (xs := st.data.toList.map fun x => Value.int .u8 x.toNat) (by intro v hv; simp only [List.mem_map] at hv; obtain ⟨_, _, rfl⟩ := hv; rfl) (by
        have e1 : ((st.data.toList.map fun x => V.int .u8 x.toNat).map V.cells).flatten = st.data.toList.map fun x => V.int .u8 x.toNat := by
          rw [List.map_map]
          exact flatten_singles (fun x : UInt8 => V.int .u8 x.toNat) st.data.toList
        rw [e1]; exact bytes_rep _ _ st) (fun j u hj => by
          simp only [Mem.put, if_true, Nat.zero_add, Lib.bytesCells]
          rw [Array.toList_append, List.getElem?_append_left (by
            rcases Nat.lt_or_ge j st.data.toList.length with h | h
            · simpa using h
            · rw [List.getElem?_eq_none (by simpa using h)] at hj; cases hj)]
          simpa using hj))
    simp only [List.length_map, hsz] at this
    exact this
end

end Ab

/-  unsafe.String over a row of bytes. -/
namespace Ab
open Go
variable [Globs]

section
variable {P : Program} {w : World}

theorem run_loadNums : ∀ (l : List Int) (a : Addr) (acc : ByteArray), (∀ j x, l[j]? = some x → w.cell? (a.add j) = some (.int .u8 x)) →
    (loadBytes a acc l.length).run P w = .ok ⟨acc.data ++ (l.map fun n => UInt8.ofNat n.toNat).toArray⟩ w
  | [], a, acc, _ => by simp [loadBytes]
  | x :: l, a, acc, h => by
    have h0 : w.cell? a = some (.int .u8 x) := by
      have := h 0 x rfl
      simpa [Addr.add] using this
    have ih := run_loadNums l (a.add 1) (acc.push x.toNat.toUInt8) (fun j y hy => by
      have := h (j + 1) y (by simpa using hy)
      have e : (a.add 1).add j = a.add (j + 1) := by
        unfold Addr.add
        by_cases hj : j = 0
        · subst hj; simp
        · simp [hj]; omega
      rw [e]; exact this)
    simp only [List.length_cons, loadBytes, Sem.run_bind, run_load, h0, Result.andThen]
    rw [ih]
    congr 1
    apply ByteArray.ext
    simp [ByteArray.data_push, Nat.toUInt8]

theorem run_unsafeString_nums (pt it ty e : TypeId) (hp : P.underlying pt = some (.pointer e)) (hc : P.cellsOf e = 1) (g cells : Nat) (hsh : w.shape? g = some (e, cells)) (l : List Int) (h0 : l ≠ []) (hn : l.length ≤ cells) (h63 : l.length ≤ 9223372036854775807)
    (hcell : ∀ j x, l[j]? = some x → w.cell? ((⟨g, 0, none⟩ : Addr).add j) = some (.int .u8 x)) :
    (Builtin.unsafeString_ #[pt, it] ty #[.pointer (some ⟨g, 0, none⟩), .int .i64 l.length]).run P w = .ok (.string ⟨(l.map fun n => UInt8.ofNat n.toNat).toArray⟩) (w.freeze ⟨g, 0, none⟩ l.length) := by
  have hl : l.length ≠ 0 := by simpa using h0
  have hlb := run_loadNums (P := P) (w := w) l ⟨g, 0, none⟩ .empty hcell
  have hlies := Lib.liesAt_bytes (P := P) hc (cells / P.cellsOf e) l.length (by rw [hc]; simpa using hn)
  have h63' : ¬ (9223372036854775807 : Int) < (l.length : Int) := by omega
  have hdef : Builtin.unsafeString_ #[pt, it] ty #[.pointer (some ⟨g, 0, none⟩), .int .i64 l.length] =
      (do
        let n ← asInt (.int .i64 l.length)
        if n < 0 then runtimePanic (.error "unsafe.String: len out of range")
        if n > IntKind.i64.max then unsupported (.unsafePointer "String: a length above the largest int")
        if n = 0 then pure (.string .empty)
        else if ← variablesAt ⟨g, 0, none⟩ (← elemOf pt) n.toNat then do
          let s ← loadBytes ⟨g, 0, none⟩ .empty n.toNat
          freeze ⟨g, 0, none⟩ n.toNat
          pure (.string s)
        else unsupported (.unsafePointer "String: not so many bytes at ptr")) := rfl
  rw [hdef]
  have hmax : IntKind.i64.max = 9223372036854775807 := rfl
  have hneg : ¬ (l.length : Int) < 0 := by omega
  simp [asInt, asIntOf, hmax, h63', hneg, hl, variablesAt, hsh, elemOf, run_underlying hp, hlies, hlb]

theorem freeze_other (w : World) (g n b : Nat) (h : b ≠ g) : (w.freeze ⟨g, 0, none⟩ n).heap[b]? = w.heap[b]? := by
  unfold World.freeze
  split
  · rfl
  · show (w.heap.modify g _)[b]? = _
    rw [Array.getElem?_modify, if_neg (Ne.symm h)]

theorem freeze_rest (w : World) (a : Addr) (n : Nat) : (w.freeze a n).os = w.os ∧ (w.freeze a n).tape = w.tape ∧ (w.freeze a n).output = w.output ∧ (w.freeze a n).heap.size = w.heap.size := by
  unfold World.freeze
  split
  · exact ⟨rfl, rfl, rfl, rfl⟩
  · exact ⟨rfl, rfl, rfl, by simp⟩

/-- An object's row is frozen: the object is no more. -/
theorem Inv.kill {c M R S w} (hi : Inv c M R S w) {h b : Nat} (n : Nat) (hb : blk R h (S.at h) = some b) (hl : h < S.length) : Inv c M R (S.set h .dead) (w.freeze ⟨b, 0, none⟩ n) := by
  obtain ⟨h1, h2, h3, h4⟩ := freeze_rest w ⟨b, 0, none⟩ n
  refine hi.upd h h1 h2 h3 (by omega) (Mem.le_refl M) (Hm.le_refl R) ?_ ?_ (fun _ _ _ h => .inl h) (fun _ _ _ h => .inl h) (by simp) ?_ ?_ ?_
  · intro b' _ hne
    exact freeze_other w b n b' fun e => hne (by rw [e]; exact hb)
  · intro h' hne; rw [at_set S _ h h' hl, if_neg hne]
  · rw [at_set S _ h h hl, if_pos rfl]; trivial
  · rw [at_set S _ h h hl, if_pos rfl]; intro b' hb'; cases hb'
  · rw [at_set S _ h h hl, if_pos rfl]; intro v hv; cases hv

theorem op_sdata {c M R S w} (hi : Inv c M R S w) {K : Calls} {e : Env} {y : Opd} {r : OR} (h : insV K e S (.sdata y) = some r) {x : Value} (hx : Rep M R (y.get e) x) (ts : Array TypeId) (ty : TypeId) :
    ∃ u, r = .val u S ∧ VOk P c M R (Builtin.unsafeSliceData_ ts ty #[x]) w u S := by
  simp only [insV] at h
  split at h
  · rename_i hg
    cases h
    rw [hg] at hx
    cases hx with
    | sl0 _ a cap he =>
      obtain ⟨rfl, rfl⟩ := he rfl
      exact ⟨_, rfl, VOk.pure hi (Lib.run_unsafeSliceData_nil w ts ty 0 0) .nilp⟩
    | sl _ _ _ _ _ _ hne => exact absurd rfl hne
  · rename_i g ver len hg
    rw [hg] at hx
    have ho := hi.good.objs g
    split at h
    · rename_i ty' v ag sz rows hat
      rw [hat] at ho
      obtain ⟨b, cap, vals, hR, hh, h4, h5, h6, hrl, h7⟩ := ho
      split at h
      · rename_i hv
        subst hv
        cases h
        refine ⟨_, rfl, ?_⟩
        cases hx with
        | gs _ _ _ _ b' c' n' hR' hc' h0' =>
          rw [hR] at hR'; cases hR'
          refine VOk.pure hi (Lib.run_unsafeSliceData_row w ts ty ⟨b, 0 * sz, none⟩ len (cap - 0) (by omega)) ?_
          have := Rep.gptr (M := M) g v 0 sz 0 b cap hR
          simpa using this
        | gs0 _ b' n' hR' => rw [hR] at hR'; cases hR'; exact absurd h7.2 (Nat.lt_irrefl _)
      · cases h
    · rename_i ag sz hat
      rw [hat] at ho
      obtain ⟨b, n0, hR⟩ := ho
      split at h
      · rename_i hc
        obtain ⟨rfl, rfl⟩ := hc
        cases h
        refine ⟨_, rfl, ?_⟩
        cases hx with
        | gs _ _ _ _ b' c' n' hR' hc' h0' => rw [hR] at hR'; cases hR'; exact absurd h0' (Nat.lt_irrefl _)
        | gs0 _ b' n' hR' => exact VOk.pure hi (Lib.run_unsafeSliceData_nil w ts ty 0 0) .nilp
      · cases h
    · cases h
  · cases h

theorem run_unsafeString_zero (pt it ty : TypeId) (p : Option Addr) (k : IntKind) : (Builtin.unsafeString_ #[pt, it] ty #[.pointer p, .int k 0]).run P w = .ok (.string ByteArray.empty) w := by
  cases p <;> rfl

theorem flat_take (rows : List (List V)) (k : Nat) (h : ∀ r ∈ rows, r.length = 1) : (rows.take k).flatten = rows.flatten.take k := by
  induction rows generalizing k with
  | nil => simp
  | cons r l ih =>
    have hr := h r (by simp)
    have hl' : ∀ r ∈ l, r.length = 1 := fun q hq => h q (by simp [hq])
    cases k with
    | zero => simp
    | succ k => match r, hr with
      | [v], _ => simp [ih k hl']

theorem op_ustr {c M R S w} (hi : Inv c M R S w) {K : Calls} {e : Env} {px pn : Opd} {ty : Nat} {r : OR} (h : insV K e S (.ustr ty px pn) = some r) {x y : Value} (hx : Rep M R (px.get e) x) (hn : Rep M R (pn.get e) y)
    {pt it t : TypeId} (hp : P.underlying pt = some (.pointer ty)) (hc : P.cellsOf ty = 1) : ∃ u S', r = .val u S' ∧ VOk P c M R (Builtin.unsafeString_ #[pt, it] t #[x, y]) w u S' := by
  have hempty : Rep M R (.str []) (.string ByteArray.empty) := by have := Rep.str (M := M) (R := R) ByteArray.empty; simpa using this
  simp only [insV] at h
  split at h
  · rename_i kk k hg1 hg2
    rw [hg1] at hx; rw [hg2] at hn
    split at h
    · rename_i hk
      subst hk
      cases h
      refine ⟨_, _, rfl, ?_⟩
      cases hx
      rw [hn.int_inv]
      exact VOk.pure hi (run_unsafeString_zero pt it t none kk) hempty
    · cases h
  · rename_i g ver m k hg1 hg2
    rw [hg1] at hx; rw [hg2] at hn
    rw [hn.int_inv]
    have ho := hi.good.objs g
    split at h
    · rename_i ty' v ag sz rows hat
      rw [hat] at ho
      obtain ⟨b, cap, vals, hR, hh, h4, h5, h6, hrl, h7⟩ := ho
      split at h
      · rename_i hcnd
        obtain ⟨rfl, rfl, rfl, hk0, hkl, hk63⟩ := hcnd
        cases hx with
        | gptr _ _ _ n' _ b' c' hR' =>
          rw [hR] at hR'; cases hR'
          split at h
          · rename_i hb
            cases h
            refine ⟨_, _, rfl, ?_⟩
            have hk : k = 0 := by
              have hfl := rowV_flat _ (fun r hr => h6 r (List.mem_of_mem_take hr)) hb
              have hl : (rows.take k.toNat).length = 0 := by
                cases hr : rows.take k.toNat with
                | nil => rfl
                | cons q l =>
                  rw [hr] at hb
                  simp only [List.map_cons] at hb
                  unfold bytesOf at hb
                  split at hb
                  · rename_i he; cases he
                  · simp at hb
                  · cases hb
              simp only [List.length_take] at hl
              omega
            subst hk
            exact VOk.pure hi (run_unsafeString_zero pt it t _ .i64) hempty
          · rename_i bs hbne hb
            cases h
            refine ⟨_, _, rfl, ?_⟩
            have hfl := rowV_flat _ (fun r hr => h6 r (List.mem_of_mem_take hr)) hb
            have hcells : RepL M R ((rows.take k.toNat).map (rowV false)) (vals.toList.take k.toNat) := by
              rw [← hfl, flat_take _ _ h6]
              have := hrl.take k.toNat
              rw [List.take_take] at this
              rw [show min k.toNat (rows.length * 1) = k.toNat by omega] at this
              exact this
            obtain ⟨ns, hns, rfl⟩ := bytesOf_rep hb hcells
            have hnl : ns.length = k.toNat := by
              have := congrArg List.length hns
              simp only [List.length_map, List.length_take, Array.length_toList] at this
              omega
            have hne : ns ≠ [] := by intro e0; subst e0; exact hbne rfl
            have hcell : ∀ j u, ns[j]? = some u → w.cell? ((⟨b, 0, none⟩ : Addr).add j) = some (.int .u8 u) := by
              intro j u hj
              rw [addr_add, Nat.zero_add, cells_get hh]
              have hjl : j < ns.length := by
                rcases Nat.lt_or_ge j ns.length with hlt | hge
                · exact hlt
                · rw [List.getElem?_eq_none hge] at hj; cases hj
              have : (vals.toList.take k.toNat)[j]? = (ns.map (Value.int .u8))[j]? := by rw [hns]
              rw [List.getElem?_take, if_pos (by omega), List.getElem?_map, hj] at this
              exact this
            have hrun := run_unsafeString_nums (P := P) (w := w) pt it t ty' hp hc b vals.size (by simp [World.shape?, hh]) ns hne (by omega) (by omega) hcell
            have hkk : (ns.length : Int) = k := by omega
            rw [hkk] at hrun
            refine ⟨_, _, M, R, by simpa using hrun, Mem.le_refl M, Hm.le_refl R, hi.kill ns.length (by rw [hat]; simp [blk, hR]) (at_lt (by rw [hat]; simp)), ?_⟩
            have := Rep.str (M := M) (R := R) ⟨(ns.map fun n => UInt8.ofNat n.toNat).toArray⟩
            simpa using this
          · cases h
      · cases h
    · cases h
  · cases h

end
end Ab

/-  Calls: what is handed over, what comes back. -/
namespace Ab
open Go
variable [Globs]

def R0 : Hm := fun _ _ => none

/-! values without handles -/
mutual
theorem pure_rep {M : Mem} {R : Hm} (R' : Hm) : ∀ {v x}, Rep M R v x → v.pure = true → Rep M R' v.forget x
  | _, _, .undef, _ => .undef
  | _, _, .top x, _ => .top x
  | _, _, .bool b, _ => .bool b
  | _, _, .int k n, _ => .int k n
  | _, _, .flt k n, _ => .flt k n
  | _, _, .str s, _ => .str s
  | _, _, .nilp, _ => .nilp
  | _, _, .ptr .., h => by simp [V.pure] at h
  | _, _, .gptr .., h => by simp [V.pure] at h
  | _, _, .ro cs b off ha, h => .ro _ b off (pure_repAt R' ha (by simpa [V.pure] using h))
  | _, _, .sl0 ex a cap he, _ => by simp only [V.forget, V.forgets]; exact .sl0 false a cap (fun h => by cases h)
  | _, _, .sl ex xs b off n cap hx hc he ha, h => by
    have hl : (V.forgets xs).length = xs.length := by
      clear ha hc he h hx
      induction xs with
      | nil => rfl
      | cons a xs ih => simp [V.forgets, ih]
    have := Rep.sl (M := M) (R := R') false (V.forgets xs) b off n cap (by intro h0; apply hx; apply List.eq_nil_of_length_eq_zero; rw [← hl, h0]; rfl) (by omega) (fun h => by cases h) (pure_repEl R' ha (by simpa [V.pure] using h))
    rw [hl] at this
    exact this
  | _, _, .gs .., h => by simp [V.pure] at h
  | _, _, .gs0 .., h => by simp [V.pure] at h
  | _, _, .map .., h => by simp [V.pure] at h
  | _, _, .nilmap, _ => .nilmap
  | _, _, .fn f a b as bs ha hb, h => by
    simp only [V.pure, Bool.and_eq_true] at h
    exact .fn f _ _ as bs (pure_repL R' ha h.1) (pure_repL R' hb h.2)
  | _, _, .nilfn, _ => .nilfn
  | _, _, .iface t v x hv, h => .iface t _ x (pure_rep R' hv (by simpa [V.pure] using h))
  | _, _, .nili, _ => .nili
  | _, _, .agg cs vs hv, h => .agg _ vs (pure_repL R' hv (by simpa [V.pure] using h))
  | _, _, .tup cs vs hv, h => .tup _ vs (pure_repL R' hv (by simpa [V.pure] using h))
theorem pure_repL {M : Mem} {R : Hm} (R' : Hm) : ∀ {vs xs}, RepL M R vs xs → V.pures vs = true → RepL M R' (V.forgets vs) xs
  | _, _, .nil, _ => .nil
  | _, _, .cons v x vs xs h hs, hp => by
    simp only [V.pures, Bool.and_eq_true] at hp
    exact .cons _ x _ xs (pure_rep R' h hp.1) (pure_repL R' hs hp.2)
theorem pure_repAt {M : Mem} {R : Hm} (R' : Hm) : ∀ {b off vs}, RepAt M R b off vs → V.pures vs = true → RepAt M R' b off (V.forgets vs)
  | _, _, _, .nil b off, _ => .nil b off
  | _, _, _, .cons b off x v vs hm h hs, hp => by
    simp only [V.pures, Bool.and_eq_true] at hp
    exact .cons b off x _ _ hm (pure_rep R' h hp.1) (pure_repAt R' hs hp.2)
theorem pure_repEl {M : Mem} {R : Hm} (R' : Hm) : ∀ {b n off vs}, RepEl M R b n off vs → V.pures vs = true → RepEl M R' b n off (V.forgets vs)
  | _, _, _, _, .nil b n off, _ => .nil b n off
  | _, _, _, _, .cons b n off v vs hl ha hs, hp => by
    simp only [V.pures, Bool.and_eq_true] at hp
    have hc : v.forget.cells = V.forgets v.cells := by
      cases v <;> simp [V.forget, V.cells, V.forgets]
    have hpc : V.pures v.cells = true := by
      have := hp.1
      cases v <;> simp_all [V.cells, V.pures, V.pure]
    have hfl : (V.forgets v.cells).length = v.cells.length := by
      generalize v.cells = l
      induction l with
      | nil => rfl
      | cons a l ih => simp [V.forgets, ih]
    exact .cons b n off _ _ (by rw [hc, hfl]; exact hl) (by rw [hc]; exact pure_repAt R' ha hpc) (pure_repEl R' hs hp.2)
end

mutual
theorem pure_same {M : Mem} {R : Hm} (R' : Hm) : ∀ {v x}, Rep M R v x → v.pure = true → Rep M R' v x
  | _, _, .undef, _ => .undef
  | _, _, .top x, _ => .top x
  | _, _, .bool b, _ => .bool b
  | _, _, .int k n, _ => .int k n
  | _, _, .flt k n, _ => .flt k n
  | _, _, .str s, _ => .str s
  | _, _, .nilp, _ => .nilp
  | _, _, .ptr .., h => by simp [V.pure] at h
  | _, _, .gptr .., h => by simp [V.pure] at h
  | _, _, .ro cs b off ha, h => .ro _ b off (pure_sameAt R' ha (by simpa [V.pure] using h))
  | _, _, .sl0 ex a cap he, _ => .sl0 ex a cap he
  | _, _, .sl ex xs b off n cap hx hc he ha, h => .sl ex xs b off n cap hx hc he (pure_sameEl R' ha (by simpa [V.pure] using h))
  | _, _, .gs .., h => by simp [V.pure] at h
  | _, _, .gs0 .., h => by simp [V.pure] at h
  | _, _, .map .., h => by simp [V.pure] at h
  | _, _, .nilmap, _ => .nilmap
  | _, _, .fn f a b as bs ha hb, h => by
    simp only [V.pure, Bool.and_eq_true] at h
    exact .fn f _ _ as bs (pure_sameL R' ha h.1) (pure_sameL R' hb h.2)
  | _, _, .nilfn, _ => .nilfn
  | _, _, .iface t v x hv, h => .iface t _ x (pure_same R' hv (by simpa [V.pure] using h))
  | _, _, .nili, _ => .nili
  | _, _, .agg cs vs hv, h => .agg _ vs (pure_sameL R' hv (by simpa [V.pure] using h))
  | _, _, .tup cs vs hv, h => .tup _ vs (pure_sameL R' hv (by simpa [V.pure] using h))
theorem pure_sameL {M : Mem} {R : Hm} (R' : Hm) : ∀ {vs xs}, RepL M R vs xs → V.pures vs = true → RepL M R' vs xs
  | _, _, .nil, _ => .nil
  | _, _, .cons v x vs xs h hs, hp => by
    simp only [V.pures, Bool.and_eq_true] at hp
    exact .cons _ x _ xs (pure_same R' h hp.1) (pure_sameL R' hs hp.2)
theorem pure_sameAt {M : Mem} {R : Hm} (R' : Hm) : ∀ {b off vs}, RepAt M R b off vs → V.pures vs = true → RepAt M R' b off vs
  | _, _, _, .nil b off, _ => .nil b off
  | _, _, _, .cons b off x v vs hm h hs, hp => by
    simp only [V.pures, Bool.and_eq_true] at hp
    exact .cons b off x _ _ hm (pure_same R' h hp.1) (pure_sameAt R' hs hp.2)
theorem pure_sameEl {M : Mem} {R : Hm} (R' : Hm) : ∀ {b n off vs}, RepEl M R b n off vs → V.pures vs = true → RepEl M R' b n off vs
  | _, _, _, _, .nil b n off, _ => .nil b n off
  | _, _, _, _, .cons b n off v vs hl ha hs, hp => by
    simp only [V.pures, Bool.and_eq_true] at hp
    have hpc : V.pures v.cells = true := by
      have := hp.1
      cases v <;> simp_all [V.cells, V.pures, V.pure]
    exact .cons b n off _ _ hl (pure_sameAt R' ha hpc) (pure_sameEl R' hs hp.2)
end

mutual
theorem plain_rep {M : Mem} {R : Hm} (M' : Mem) (R' : Hm) : ∀ {v x}, Rep M R v x → v.plain = true → Rep M' R' v x
  | _, _, .undef, h => by simp [V.plain] at h
  | _, _, .top x, h => by simp [V.plain] at h
  | _, _, .bool b, _ => .bool b
  | _, _, .int k n, _ => .int k n
  | _, _, .flt k n, _ => .flt k n
  | _, _, .str s, _ => .str s
  | _, _, .nilp, _ => .nilp
  | _, _, .ptr .., h => by simp [V.plain] at h
  | _, _, .gptr .., h => by simp [V.plain] at h
  | _, _, .ro .., h => by simp [V.plain] at h
  | _, _, .sl0 .., h => by simp [V.plain] at h
  | _, _, .sl .., h => by simp [V.plain] at h
  | _, _, .gs .., h => by simp [V.plain] at h
  | _, _, .gs0 .., h => by simp [V.plain] at h
  | _, _, .map .., h => by simp [V.plain] at h
  | _, _, .nilmap, _ => .nilmap
  | _, _, .fn .., h => by simp [V.plain] at h
  | _, _, .nilfn, _ => .nilfn
  | _, _, .iface t v x hv, h => .iface t _ x (plain_rep M' R' hv (by simpa [V.plain] using h))
  | _, _, .nili, _ => .nili
  | _, _, .agg cs vs hv, h => .agg _ vs (plain_repL M' R' hv (by simpa [V.plain] using h))
  | _, _, .tup cs vs hv, h => .tup _ vs (plain_repL M' R' hv (by simpa [V.plain] using h))
theorem plain_repL {M : Mem} {R : Hm} (M' : Mem) (R' : Hm) : ∀ {vs xs}, RepL M R vs xs → V.plains vs = true → RepL M' R' vs xs
  | _, _, .nil, _ => .nil
  | _, _, .cons v x vs xs h hs, hp => by
    simp only [V.plains, Bool.and_eq_true] at hp
    exact .cons _ x _ xs (plain_rep M' R' h hp.1) (plain_repL M' R' hs hp.2)
end

/-! what lies in the objects, as data -/
/-- Blocks of objects that do not go on under a name. -/
def lvm (m : Nat → Option Nat) (R : Hm) (S : St) : Nat → Prop := fun b => ∃ h, m h = none ∧ blk R h (S.at h) = some b

open Classical in
noncomputable def freezeMem (m : Nat → Option Nat) (M : Mem) (R : Hm) (S : St) (w : World) : Mem := fun b o =>
  match M b o with
  | some x => some x
  | none => if lvm m R S b then w.cell? ⟨b, o, none⟩ else none

theorem freeze_le (m : Nat → Option Nat) (M : Mem) (R : Hm) (S : St) (w : World) : M.le (freezeMem m M R S w) := by
  intro b o x h
  simp [freezeMem, h]
theorem freeze_live {m M R S w} (g : Good M R S w) {h b : Nat} (hm : m h = none) (hb : blk R h (S.at h) = some b) (o : Nat) : freezeMem m M R S w b o = w.cell? ⟨b, o, none⟩ := by
  have := g.sep h b o hb
  simp only [freezeMem, this]
  rw [if_pos ⟨h, hm, hb⟩]
theorem freeze_mem {m M R S w} (g : Good M R S w) (b o : Nat) (x : Value) (h : freezeMem m M R S w b o = some x) : w.cell? ⟨b, o, none⟩ = some x := by
  simp only [freezeMem] at h
  split at h
  · rename_i y hy; cases h; exact g.mem b o _ hy
  · split at h
    · exact h
    · cases h
theorem freeze_cases {m M R S w} {b o : Nat} {x : Value} (h : freezeMem m M R S w b o = some x) : M b o = some x ∨ lvm m R S b := by
  simp only [freezeMem] at h
  split at h
  · rename_i y hy; cases h; exact .inl hy
  · split at h
    · rename_i hl; exact .inr hl
    · cases h

theorem mapO_len {f : V → Option V} : ∀ {l l' : List V}, mapO f l = some l' → l'.length = l.length
  | [], l', h => by simp only [mapO, Option.some.injEq] at h; subst h; rfl
  | v :: r, l', h => by
    simp only [mapO] at h
    split at h
    · split at h
      · rename_i xs hx; cases h; simp [mapO_len hx]
      · cases h
    · cases h

theorem mapO_repL {M M' R R' f} (hf : ∀ v v' x, f v = some v' → Rep M R v x → Rep M' R' v' x) : ∀ {l l' : List V} {xs : List Value}, mapO f l = some l' → RepL M R l xs → RepL M' R' l' xs
  | [], l', _, h, .nil => by simp only [mapO, Option.some.injEq] at h; subst h; exact .nil
  | v :: r, l', _, h, .cons _ x _ xs hv hs => by
    simp only [mapO] at h
    split at h
    · rename_i y hy
      split at h
      · rename_i ys hys; cases h; exact .cons _ _ _ _ (hf _ _ _ hy hv) (mapO_repL hf hys hs)
      · cases h
    · cases h

theorem snap_pure (s : St) (p : SP) (d : Nat) {v : V} (h : v.pure = true) : snap s p d v = some (bif p.fg then v.forget else v) := by
  cases d <;> simp [snap, h]

theorem forget_cells (v : V) : v.forget.cells = V.forgets v.cells := by
  cases v <;> simp [V.forget, V.cells, V.forgets]

theorem snap_cells {s : St} {p : SP} {d : Nat} {v v' : V} (h : snap s p d v = some v') : (∀ cs, v ≠ .agg cs) → v'.cells = [v'] := by
  intro hne
  by_cases hpv : v.pure = true
  · rw [snap_pure s p d hpv] at h
    cases h
    cases v <;> cases p.fg <;> first | rfl | exact absurd rfl (hne _)
  · have hpv : v.pure = false := by simpa using hpv
    cases d with
    | zero => simp [snap, hpv] at h
    | succ d =>
      simp only [snap, hpv, cond_false] at h
      cases v <;> simp only at h <;> first | (cases h; done) | (exact absurd rfl (hne _)) | skip
      all_goals first
        | (simp only [Option.map_eq_some_iff] at h; obtain ⟨_, _, rfl⟩ := h; rfl)
        | skip
      · split at h
        · cases h; rfl
        · cases hrd : p.rd <;> simp only [hrd, cond_true, cond_false] at h <;> first | (cases h; done) | skip
          split at h
          · simp only [Option.map_eq_some_iff] at h; obtain ⟨_, _, rfl⟩ := h; rfl
          · cases h
      · split at h
        · cases h; rfl
        · cases h
      · split at h
        · cases h; rfl
        · cases hsn : p.sn <;> simp only [hsn, cond_true, cond_false] at h <;> first | (cases h; done) | skip
          split at h
          · split at h
            · simp only [Option.map_eq_some_iff] at h; obtain ⟨_, _, rfl⟩ := h; rfl
            · cases h
          · split at h
            · cases h; rfl
            · cases h
          · cases h
      · split at h
        · cases h; rfl
        · cases h

/-- What is handed over stands for the same, where what is known has grown by what may not change any more. -/
structure SPok (p : SP) (M Mx : Mem) (R R2 : Hm) (S : St) (w : World) : Prop where
  le : M.le Mx
  names : ∀ h k, p.m h = some k → ∀ v x, R h v = some x → R2 k v = some x
  data : p.sn = true ∨ p.rd = true → ∀ h b, p.m h = none → blk R h (S.at h) = some b → ∀ o x, w.cell? ⟨b, o, none⟩ = some x → Mx b o = some x

theorem snap_ok {M R S w} (g : Good M R S w) {p : SP} {Mx : Mem} {R2 : Hm} (hp : SPok p M Mx R R2 S w) : ∀ (d : Nat) (v v' : V) (x : Value), snap S p d v = some v' → Rep M R v x → Rep Mx R2 v' x := by
  have pureCase : ∀ (d : Nat) (v v' : V) (x : Value), v.pure = true → snap S p d v = some v' → Rep M R v x → Rep Mx R2 v' x := by
    intro d v v' x hpv h hr
    rw [snap_pure S p d hpv] at h
    cases h
    have hr' := hr.mono hp.le (Hm.le_refl R)
    cases p.fg
    · exact pure_same R2 hr' hpv
    · exact pure_rep R2 hr' hpv
  intro d
  induction d with
  | zero =>
    intro v v' x h hr
    rcases Bool.eq_false_or_eq_true v.pure with hpv | hpv
    · exact pureCase 0 v v' x hpv h hr
    · simp [snap, hpv] at h
  | succ d ih =>
    intro v v' x h hr
    rcases Bool.eq_false_or_eq_true v.pure with hpv | hpv
    · exact pureCase _ v v' x hpv h hr
    · simp only [snap, hpv, cond_false] at h
      have ihL : ∀ {l l' : List V} {xs : List Value}, mapO (snap S p d) l = some l' → RepL M R l xs → RepL Mx R2 l' xs := fun h1 h2 => mapO_repL (fun v v' x h => ih v v' x h) h1 h2
      -- an element, cell by cell
      have ihCells : ∀ (v v' : V), snap S p d v = some v' → v'.cells.length = v.cells.length ∧ ∀ xs : List Value, RepL M R v.cells xs → RepL Mx R2 v'.cells xs := by
        intro v v' hv
        by_cases ha : ∃ cs, v = .agg cs
        · obtain ⟨cs, rfl⟩ := ha
          have : ∃ cs', v' = .agg cs' ∧ cs'.length = cs.length := by
            by_cases hpa : (V.agg cs).pure = true
            · rw [snap_pure S p d hpa] at hv
              cases hv
              cases p.fg
              · exact ⟨cs, rfl, rfl⟩
              · refine ⟨V.forgets cs, rfl, ?_⟩
                clear hpa
                induction cs with
                | nil => rfl
                | cons a cs ih => simp [V.forgets, ih]
            · have hpa : (V.agg cs).pure = false := by simpa using hpa
              cases d with
              | zero => simp [snap, hpa] at hv
              | succ d =>
                simp only [snap, hpa, cond_false, Option.map_eq_some_iff] at hv
                obtain ⟨cs', h1, rfl⟩ := hv
                exact ⟨cs', rfl, mapO_len h1⟩
          obtain ⟨cs', rfl, hl⟩ := this
          refine ⟨hl, fun xs hxs => ?_⟩
          have := ih (.agg cs) (.agg cs') (.agg xs.toArray) hv (.agg cs xs hxs)
          cases this with
          | agg _ vs hvs => simpa [V.cells] using hvs
        · have hne : ∀ cs, v ≠ .agg cs := fun cs e => ha ⟨cs, e⟩
          have hc' := snap_cells hv hne
          have hc : v.cells = [v] := by cases v <;> first | rfl | exact absurd rfl (hne _)
          rw [hc, hc']
          refine ⟨rfl, fun xs hxs => ?_⟩
          cases hxs with
          | cons _ x _ _ h1 h2 => cases h2; exact .cons _ _ _ _ (ih v v' x hv h1) .nil
      have ihEl : ∀ (l : List V) (l' : List V) (b n off : Nat), mapO (snap S p d) l = some l' → RepEl M R b n off l → RepEl Mx R2 b n off l' := by
        intro l
        induction l with
        | nil => intro l' b n off h1 _; simp only [mapO, Option.some.injEq] at h1; subst h1; exact .nil _ _ _
        | cons v l ihl =>
          intro l' b n off h1 h2
          simp only [mapO] at h1
          split at h1
          · rename_i y hy
            split at h1
            · rename_i ys hys
              cases h1
              cases h2 with
              | cons _ _ _ _ _ hl ha hs =>
                obtain ⟨c1, c2⟩ := ihCells v y hy
                obtain ⟨xs, h3, h4⟩ := ha.vals
                exact .cons _ _ _ _ _ (by omega) (RepAt.of_vals (c2 xs h3) (fun j y hj => hp.le _ _ _ (h4 j y hj))) (ihl _ _ _ _ hys hs)
            · cases h1
          · cases h1
      cases v <;> simp only at h <;> first | (cases h; done) | skip
      case ptr hh off =>
        split at h
        · rename_i k hk
          cases h
          cases hr with
          | ptr _ _ b c n hR => exact .ptr _ _ b c n (hp.names _ _ hk _ _ hR)
        · rename_i hk
          cases hrd : p.rd <;> simp only [hrd, cond_true, cond_false] at h <;> first | (cases h; done) | skip
          split at h
          · rename_i cs hat
            simp only [Option.map_eq_some_iff] at h
            obtain ⟨cs', h1, rfl⟩ := h
            have ho := g.objs hh
            rw [hat] at ho
            obtain ⟨b, c', n, vals, hR, hhp, hrl⟩ := ho
            cases hr with
            | ptr _ _ b2 _ _ hR2 =>
              rw [hR] at hR2; cases hR2
              have hb : blk R hh (S.at hh) = some b := by rw [hat]; simp [blk, hR]
              refine .ro _ b off (RepAt.of_vals (ihL h1 (hrl.drop off)) (fun j y hj => ?_))
              refine hp.data (.inr hrd) hh b hk hb _ _ ?_
              rw [cells_get hhp]
              rw [List.getElem?_drop] at hj; exact hj
          · cases h
      case gptr hh ver i n off =>
        split at h
        · rename_i k hk
          cases h
          cases hr with
          | gptr _ _ _ _ _ b c hR => exact .gptr _ _ _ _ _ b c (hp.names _ _ hk _ _ hR)
        · cases h
      case sl ex cs =>
        simp only [Option.map_eq_some_iff] at h
        obtain ⟨cs', h1, rfl⟩ := h
        have hl := mapO_len h1
        cases hr with
        | sl0 _ a cap he =>
          have : cs' = [] := List.eq_nil_of_length_eq_zero (by simpa using hl)
          subst this
          exact .sl0 _ a cap (fun h => by cases hfg : p.fg <;> rw [hfg] at h <;> simp only [cond_true, cond_false] at h <;> first | exact he h | cases h)
        | sl _ _ b off n cap hne hc he ha =>
          have := Rep.sl (M := Mx) (R := R2) (bif p.fg then false else ex) cs' b off n cap (by intro h0; apply hne; apply List.eq_nil_of_length_eq_zero; rw [← hl, h0]; rfl) (by omega)
            (fun h => by cases hfg : p.fg <;> rw [hfg] at h <;> simp only [cond_true, cond_false] at h <;> first | (rw [hl]; exact he h) | cases h) (ihEl _ _ _ _ _ h1 ha)
          rw [hl] at this; exact this
      case gs hh ver off len =>
        split at h
        · rename_i k hk
          cases h
          cases hr with
          | gs _ _ _ _ b c n hR hc h0 => exact .gs _ _ _ _ b c n (hp.names _ _ hk _ _ hR) hc h0
          | gs0 _ b n hR => exact .gs0 _ b n (hp.names _ _ hk _ _ hR)
        · rename_i hk
          cases hsn : p.sn <;> simp only [hsn, cond_true, cond_false] at h <;> first | (cases h; done) | skip
          split at h
          · rename_i v0 ag sz rows hat
            split at h
            · rename_i hc
              obtain ⟨rfl, hle, hpl⟩ := hc
              simp only [Option.map_eq_some_iff] at h
              obtain ⟨xs', h1, rfl⟩ := h
              have ho := g.objs hh
              rw [hat] at ho
              obtain ⟨b, cap, vals, hR, hhp, h4, h5, h6, hrl, h7⟩ := ho
              cases hr with
              | gs0 _ b' n' hR' => rw [hR] at hR'; cases hR'; exact absurd h7.2 (Nat.lt_irrefl _)
              | gs _ _ _ _ b2 c2 n2 hR2 hc2 _ =>
                rw [hR] at hR2; cases hR2
                have hb : blk R hh (S.at hh) = some b := by rw [hat]; simp [blk, hR]
                have hl := mapO_len h1
                have hll : (((rows.drop off).take len).map (rowV ag)).length = len := by simp; omega
                rw [hll] at hl
                -- rows become values
                have key : ∀ (k : Nat) (rs : List (List V)) (ys : List V), (∀ r ∈ rs, r ∈ rows) → mapO (snap S p d) (rs.map (rowV ag)) = some ys → (∀ i r, rs[i]? = some r → rows[k + i]? = some r) →
                    RepEl Mx R2 b sz (k * sz) ys := by
                  intro k rs
                  induction rs generalizing k with
                  | nil => intro ys _ h _; simp only [List.map_nil, mapO, Option.some.injEq] at h; subst h; exact .nil _ _ _
                  | cons r rs ihr =>
                    intro ys hin h hat2
                    simp only [List.map_cons, mapO] at h
                    split at h
                    · rename_i y hy
                      split at h
                      · rename_i ys' hys
                        cases h
                        have hr0 := hat2 0 r (by simp)
                        simp only [Nat.add_zero] at hr0
                        have hrl2 := h6 r (hin r (by simp))
                        have hk : k < rows.length := by
                          rcases Nat.lt_or_ge k rows.length with h | h
                          · exact h
                          · rw [List.getElem?_eq_none h] at hr0; cases hr0
                        have hm : (k + 1) * sz ≤ rows.length * sz := Nat.mul_le_mul_right _ hk
                        rw [Nat.add_mul] at hm
                        -- this row's cells in memory
                        have hrow : RepL M R r ((vals.toList.drop (k * sz)).take sz) := by
                          have := (hrl.drop (k * sz)).take sz
                          rw [flatten_take rows k r h6 hr0] at this
                          refine cast (congrArg (RepL M R r) ?_) this
                          apply List.ext_getElem?
                          intro j
                          simp only [List.getElem?_take, List.getElem?_drop]
                          repeat' split
                          all_goals first
                            | rfl
                            | omega
                        have hcells : (rowV ag r).cells = r := by
                          cases ag with
                          | true => rfl
                          | false =>
                            simp only [rowsPlain, Bool.false_or, List.all_eq_true] at hpl
                            have := hpl r (hin r (by simp))
                            match r, this with
                            | [q], hq =>
                              simp only [rowV, cond_false, List.headD_cons]
                              cases q <;> first | rfl | (simp [V.oneCell] at hq)
                        obtain ⟨c1, c2⟩ := ihCells _ _ hy
                        rw [hcells] at c1 c2
                        refine .cons _ _ _ _ _ (by omega) (RepAt.of_vals (c2 _ hrow) (fun j u hj => ?_)) ?_
                        · refine hp.data (.inl hsn) hh b ‹p.m hh = none› hb _ _ ?_
                          rw [cells_get hhp]
                          rw [List.getElem?_take] at hj
                          split at hj
                          · rw [List.getElem?_drop] at hj; exact hj
                          · cases hj
                        · have := ihr (k + 1) ys' (fun r hr => hin r (by simp [hr])) hys (fun i r hi => by have := hat2 (i + 1) r (by simpa using hi); rw [show k + 1 + i = k + (i + 1) by omega]; exact this)
                          rw [Nat.add_mul, Nat.one_mul] at this; exact this
                      · cases h
                    · cases h
                have hel := key off ((rows.drop off).take len) xs' (fun r hr => List.mem_of_mem_drop (List.mem_of_mem_take hr)) h1 (fun i r hi => by
                  rw [List.getElem?_take] at hi
                  split at hi
                  · rw [List.getElem?_drop] at hi; exact hi
                  · cases hi)
                rcases Nat.eq_zero_or_pos len with h0 | h0
                · subst h0
                  have : xs' = [] := List.eq_nil_of_length_eq_zero hl
                  subst this
                  exact .sl0 false _ _ (fun h => by cases h)
                · have := Rep.sl (M := Mx) (R := R2) false xs' b (off * sz) sz (cap - off) (by intro h; subst h; simp at hl; omega) (by omega) (fun h => by cases h) hel
                  rw [hl] at this; exact this
            · cases h
          · split at h
            · rename_i hl0
              subst hl0
              cases h
              cases hr with
              | gs => exact .sl0 false _ _ (fun h => by cases h)
              | gs0 => exact .sl0 false _ _ (fun h => by cases h)
            · cases h
          · cases h
      case fn f as bs =>
        split at h
        · rename_i a' b' h1 h2
          cases h
          cases hr with
          | fn _ _ _ xs ys ha hb => exact .fn _ _ _ xs ys (ihL h1 ha) (ihL h2 hb)
        · cases h
      case iface t u =>
        simp only [Option.map_eq_some_iff] at h
        obtain ⟨u', h1, rfl⟩ := h
        cases hr with
        | iface _ _ y hy => exact .iface _ _ _ (ih _ _ _ h1 hy)
      case agg cs =>
        simp only [Option.map_eq_some_iff] at h
        obtain ⟨u', h1, rfl⟩ := h
        cases hr with
        | agg _ y hy => exact .agg _ _ (ihL h1 hy)
      case tup cs =>
        simp only [Option.map_eq_some_iff] at h
        obtain ⟨u', h1, rfl⟩ := h
        cases hr with
        | tup _ y hy => exact .tup _ _ (ihL h1 hy)

end Ab

/-  Soundness: what the abstract machine's run says, the model's call does. -/
namespace Ab
open Go
variable [Globs]

/-- A call by number, of a function with a body or of one of the runtime's own. -/
def CallSem (P : Program) (f : Nat) (args : Array Value) (w : World) (Q : Ending → World → Prop) : Prop :=
  match (callFunc f args).run P w with
  | .ok (.enter g as) w' => Go.Calls P g as w' Q
  | .ok (.value v) w' => Q (.returned v) w'
  | _ => False

/-- Which handle had which block. -/
def lv (R : Hm) (S : St) : Nat → Nat → Prop := fun h b => blk R h (S.at h) = some b

def Back (M : Mem) (R : Hm) (S : St) (w : World) : Out → Ending → World → Prop
  | .ret v s', e, w' => ∃ x M' R', e = .returned x ∧ M.le M' ∧ R.le R' ∧ Inv ⟨w, lv R S, M⟩ M' R' s' w' ∧ Rep M' R' v x
  | .pan v s', e, w' => ∃ x M' R', e = .panicked [{ v := x, recovered := false }] ∧ M.le M' ∧ R.le R' ∧ Inv ⟨w, lv R S, M⟩ M' R' s' w' ∧ Rep M' R' v x

def Sound (P : Program) (K : Calls) : Prop :=
  ∀ f args s r, K f args s = some r → ∀ M R w vals, Good M R s w → RepL M R args vals → CallSem P f vals.toArray w (Back M R s w r)

theorem Good.start {M R S w} (g : Good M R S w) : Inv ⟨w, lv R S, M⟩ M R S w :=
  ⟨g, ⟨rfl, rfl, rfl, Nat.le_refl _, fun _ _ _ => rfl, fun h b hb => .inl hb, fun _ _ _ h => .inl h⟩⟩

theorem at_nil (h : Nat) : St.at [] h = .dead := by simp [St.at]

theorem Good.alone {M M1 : Mem} {R S w} (g : Good M R S w) (hle : M.le M1) (hm : ∀ b o x, M1 b o = some x → w.cell? ⟨b, o, none⟩ = some x) : Good M1 R0 [] w := by
  refine ⟨hm, ?_, ?_, ?_, ?_, ?_, Mem.le_trans g.glob hle, g.pins⟩
  · intro h; rw [at_nil]; trivial
  · intro h h' b _ hb; rw [at_nil] at hb; cases hb
  · intro h b o hb; rw [at_nil] at hb; cases hb
  · intro h v x hx; cases hx
  · intro h v hg; rw [at_nil] at hg; cases hg

theorem lv_nil (h b : Nat) : ¬ lv R0 [] h b := fun hb => by unfold lv at hb; rw [at_nil] at hb; cases hb

/-- Behind a call that was handed no memory: its result as data. -/
theorem closed_back {c M R S w} (hi : Inv c M R S w) {M' R' s' w'} (hM : M.le M') (h : Inv ⟨w, lv R0 [], M⟩ M' R' s' w') :
    M.le (freezeMem (fun _ => none) M' R' s' w') ∧ Inv c (freezeMem (fun _ => none) M' R' s' w') R S w' := by
  have hle := Mem.le_trans hM (freeze_le (fun _ => none) M' R' s' w')
  have hkeep : ∀ b, b < w.heap.size → w'.heap[b]? = w.heap[b]? := fun b hb => h.cxt.keep b hb (fun h => lv_nil h b)
  have hnew : ∀ b o x, freezeMem (fun _ => none) M' R' s' w' b o = some x → M b o = some x ∨ w.heap.size ≤ b := by
    intro b o x hx
    rcases freeze_cases hx with h1 | ⟨k, _, hk⟩
    · exact h.cxt.new b o x h1
    · rcases h.cxt.own k b hk with h2 | h2
      · exact absurd h2 (lv_nil k b)
      · exact .inr h2
  refine ⟨hle, ?_⟩
  refine hi.upd S.length h.cxt.os h.cxt.tape h.cxt.output h.cxt.size hle (Hm.le_refl R) (fun b hb _ => hkeep b hb) (fun _ _ => rfl) ?_ (fun _ _ _ h => .inl h) (Nat.le_refl _) ?_ ?_ ?_
  · intro b o x hx
    rcases hnew b o x hx with h1 | h1
    · exact .inl h1
    · exact .inr ⟨h1, freeze_mem h.good b o x hx, by rw [at_len]; simp [blk]⟩
  · rw [at_len]; trivial
  · rw [at_len]; intro b hb; simp [blk] at hb
  · rw [at_len]; intro v hg; cases hg

theorem spok_freeze (p : SP) (M : Mem) (R R2 : Hm) (S : St) (w : World) (g : Good M R S w) (hn : ∀ h k, p.m h = some k → ∀ v x, R h v = some x → R2 k v = some x) : SPok p M (freezeMem p.m M R S w) R R2 S w :=
  ⟨freeze_le _ _ _ _ _, hn, fun _ h b hm hb o x hx => by rw [freeze_live g hm hb]; exact hx⟩

def Kont (c : Ctx) (M : Mem) (R : Hm) (a : Act) (o : Oper) (next : Act → World → Prop) (v : V) (s : St) : Prop :=
  ∀ x w' M' R', M.le M' → R.le R' → Inv c M' R' s w' → Rep M' R' v x → next (a.put o.dst x) w'
def KontP (c : Ctx) (M : Mem) (R : Hm) (a : Act) (Q : Exit → Act → World → Prop) (v : V) (s : St) : Prop :=
  ∀ x w' M' R', M.le M' → R.le R' → Inv c M' R' s w' → Rep M' R' v x → Q (.panic [{ v := x, recovered := false }]) a w'

def KontR (c : Ctx) (M : Mem) (R : Hm) (a : Act) (o : Oper) (next : Act → World → Prop) (Q : Exit → Act → World → Prop) : OR → Prop
  | .val v s => Kont c M R a o next v s
  | .pan v s => KontP c M R a Q v s

/-- From a call's account to the operation's. -/
theorem callsem_wp {P : Program} {f : Nat} {args : Array Value} {o : Oper} {a : Act} {w : World} {next : Act → World → Prop} {Q : Exit → Act → World → Prop} {B : Ending → World → Prop}
    (ho : (execOp a.eval o).run P w = (callFunc f args).run P w) (h : CallSem P f args w B)
    (hb : ∀ e w', B e w' → (∃ x, e = .returned x ∧ next (a.put o.dst x) w') ∨ (∃ ch, e = .panicked ch ∧ Q (.panic ch) a w')) : o.wp P a w next Q := by
  unfold Oper.wp
  rw [ho]
  unfold CallSem at h
  split at h
  · rename_i g as w' he
    rw [he]
    refine h.mono fun e w'' hbw => ?_
    rcases hb e w'' hbw with ⟨x, rfl, hn⟩ | ⟨ch, rfl, hq⟩
    · exact hn
    · exact hq
  · rename_i v w' he
    rw [he]
    rcases hb _ w' h with ⟨x, hx, hn⟩ | ⟨ch, hx, hq⟩
    · cases hx; exact hn
    · cases hx
  · exact h.elim

theorem closed_wp {P : Program} {K : Calls} (hK : Sound P K) {f : Nat} {args : List V} {vals : List Value} {r : OR} {c M R S w} (hi : Inv c M R S w) (hv : RepL M R args vals) (h : closedCall K f args S = some r)
    {o : Oper} {a : Act} {next : Act → World → Prop} {Q : Exit → Act → World → Prop} (ho : (execOp a.eval o).run P w = (callFunc f vals.toArray).run P w) (hk : KontR c M R a o next Q r) : o.wp P a w next Q := by
  unfold closedCall at h
  cases hp : V.pures args with
  | true =>
    simp only [hp, cond_true] at h
    cases hr : K f (V.forgets args) [] with
    | none => simp [hr] at h
    | some out =>
      have hs := hK f _ [] out hr M R0 w vals (hi.good.alone (Mem.le_refl M) hi.good.mem) (pure_repL R0 hv hp)
      refine callsem_wp ho hs fun e w' hb => ?_
      cases out with
      | ret v s' =>
        simp only [hr, Option.map_eq_some_iff] at h
        obtain ⟨v', hsn, rfl⟩ := h
        obtain ⟨x, M', R', rfl, h1, h2, h3, h4⟩ := hb
        obtain ⟨c1, c2⟩ := closed_back hi h1 h3
        exact .inl ⟨x, rfl, hk x w' _ R c1 (Hm.le_refl R) c2 ((snap_ok h3.good (spok_freeze spClosed M' R' R0 s' w' h3.good (fun _ _ h => by cases h)) _ _ _ _ hsn h4).mono (Mem.le_refl _) (fun _ _ _ h => by cases h))⟩
      | pan v s' =>
        simp only [hr, Option.map_eq_some_iff] at h
        obtain ⟨v', hsn, rfl⟩ := h
        obtain ⟨x, M', R', rfl, h1, h2, h3, h4⟩ := hb
        obtain ⟨c1, c2⟩ := closed_back hi h1 h3
        exact .inr ⟨_, rfl, hk x w' _ R c1 (Hm.le_refl R) c2 ((snap_ok h3.good (spok_freeze spClosed M' R' R0 s' w' h3.good (fun _ _ h => by cases h)) _ _ _ _ hsn h4).mono (Mem.le_refl _) (fun _ _ _ h => by cases h))⟩
  | false =>
    simp only [hp, cond_false] at h
    cases hsn : mapO (snap S spLook snapDepth) args with
    | none => simp [hsn] at h
    | some as =>
      simp only [hsn] at h
      cases hr : K f as [] with
      | none => simp [hr] at h
      | some out =>
        have hva : RepL (freezeMem (fun _ => none) M R S w) R0 as vals := mapO_repL (fun v v' x h1 h2 => snap_ok hi.good (spok_freeze spLook M R R0 S w hi.good (fun _ _ h => by cases h)) _ v v' x h1 h2) hsn hv
        have hs := hK f _ [] out hr (freezeMem (fun _ => none) M R S w) R0 w vals (hi.good.alone (freeze_le _ _ _ _ _) (freeze_mem hi.good)) hva
        have back : ∀ {M' R' s' w'}, Inv ⟨w, lv R0 [], freezeMem (fun _ => none) M R S w⟩ M' R' s' w' → Inv c M R S w' := fun h3 =>
          hi.world h3.cxt.os h3.cxt.tape h3.cxt.output h3.cxt.size (fun b hb => h3.cxt.keep b hb (fun h => lv_nil h b))
        refine callsem_wp ho hs fun e w' hb => ?_
        cases out with
        | ret v s' =>
          simp only [hr] at h
          cases hpl : v.plain with
          | false => simp [hpl] at h
          | true =>
            simp only [hpl, cond_true, Option.some.injEq] at h; subst h
            obtain ⟨x, M', R', rfl, h1, h2, h3, h4⟩ := hb
            exact .inl ⟨x, rfl, hk x w' M R (Mem.le_refl M) (Hm.le_refl R) (back h3) (plain_rep M R h4 hpl)⟩
        | pan v s' =>
          simp only [hr] at h
          cases hpl : v.plain with
          | false => simp [hpl] at h
          | true =>
            simp only [hpl, cond_true, Option.some.injEq] at h; subst h
            obtain ⟨x, M', R', rfl, h1, h2, h3, h4⟩ := hb
            exact .inr ⟨_, rfl, hk x w' M R (Mem.le_refl M) (Hm.le_refl R) (back h3) (plain_rep M R h4 hpl)⟩

end Ab

/-  In-out calls: the objects that are reached go along, and come back. -/
namespace Ab
open Go
variable [Globs]

theorem idxOf_some : ∀ {l : List Nat} {h i : Nat}, idxOf l h = some i → l[i]? = some h
  | [], h, i, e => by cases e
  | x :: r, h, i, e => by
    simp only [idxOf] at e
    cases hb : Nat.beq x h with
    | true => rw [hb] at e; simp only [cond_true, Option.some.injEq] at e; subst e; simp [Nat.eq_of_beq_eq_true hb]
    | false =>
      rw [hb] at e
      simp only [cond_false, Option.map_eq_some_iff] at e
      obtain ⟨j, hj, rfl⟩ := e
      simpa using idxOf_some hj
theorem idxOf_none : ∀ {l : List Nat} {h : Nat}, idxOf l h = none → h ∉ l
  | [], h, _ => by simp
  | x :: r, h, e => by
    simp only [idxOf] at e
    cases hb : Nat.beq x h with
    | true => rw [hb] at e; cases e
    | false =>
      rw [hb] at e
      simp only [cond_false, Option.map_eq_none_iff] at e
      have h1 := idxOf_none e
      have h2 : x ≠ h := fun he => by subst he; simp at hb
      simp [h1, Ne.symm h2]
theorem idxOf_get : ∀ {l : List Nat} {h i : Nat}, l.Nodup → l[i]? = some h → idxOf l h = some i
  | [], h, i, _, e => by simp at e
  | x :: r, h, i, hn, e => by
    simp only [List.nodup_cons] at hn
    simp only [idxOf]
    cases i with
    | zero => simp at e; subst e; simp
    | succ i =>
      simp at e
      have hx : Nat.beq x h = false := by
        cases hb : Nat.beq x h with
        | false => rfl
        | true =>
          have := Nat.eq_of_beq_eq_true hb
          subst this
          exact absurd (List.mem_of_getElem? e) hn.1
      rw [hx]
      simp [idxOf_get hn.2 e]

theorem reach_nodup (s : St) : ∀ (n : Nat) (todo acc : List Nat), acc.Nodup → (reach s n todo acc).Nodup
  | 0, _, acc, h => h
  | _ + 1, [], acc, h => h
  | n + 1, x :: t, acc, h => by
    simp only [reach]
    cases hc : acc.contains x with
    | true => simp only [cond_true]; exact reach_nodup s n t acc h
    | false =>
      simp only [cond_false]
      refine reach_nodup s n _ _ ?_
      rw [List.nodup_append]
      refine ⟨h, by simp, ?_⟩
      intro a ha b hb
      simp only [List.mem_singleton] at hb
      subst hb
      intro e
      subst e
      simp [ha] at hc

theorem mapO2_ok {f : V → Option V} : ∀ {l l' : List (List V)}, mapO2 f l = some l' → l'.length = l.length ∧ (∀ sz, (∀ r ∈ l, r.length = sz) → ∀ r ∈ l', r.length = sz) ∧ mapO f l.flatten = some l'.flatten
  | [], l', h => by simp only [mapO2, Option.some.injEq] at h; subst h; exact ⟨rfl, fun _ _ => by simp, rfl⟩
  | v :: r, l', h => by
    simp only [mapO2] at h
    split at h
    · rename_i x hx
      split at h
      · rename_i xs hxs
        cases h
        obtain ⟨h1, h2, h3⟩ := mapO2_ok hxs
        refine ⟨by simp [h1], ?_, ?_⟩
        · intro sz hs q hq
          simp only [List.mem_cons] at hq
          rcases hq with rfl | hq
          · rw [mapO_len hx]; exact hs v (by simp)
          · exact h2 sz (fun r hr => hs r (by simp [hr])) q hq
        · have app : ∀ (a b a' b' : List V), mapO f a = some a' → mapO f b = some b' → mapO f (a ++ b) = some (a' ++ b') := by
            intro a
            induction a with
            | nil => intro b a' b' ha hb; simp only [mapO, Option.some.injEq] at ha; subst ha; exact hb
            | cons y a ih =>
              intro b a' b' ha hb
              simp only [mapO, List.cons_append] at ha ⊢
              split at ha
              · rename_i z hz
                split at ha
                · rename_i zs hzs; cases ha; rw [ih b zs b' hzs hb]; rfl
                · cases ha
              · cases ha
          simp only [List.flatten_cons]
          exact app _ _ _ _ hx h3
      · cases h
    · cases h

/-- An object, handed over. -/
theorem snapObj_ok {M R S w} (g : Good M R S w) {p : SP} {Mx : Mem} {R2 : Hm} (hp : SPok p M Mx R R2 S w) {h k : Nat} {o o' : Obj} (hso : snapObj S p o = some o') (w' : World) (ho : ObjOk M R w h o) (hR : ∀ v x, R h v = some x → R2 k v = some x)
    (hheap : ∀ b, blk R h o = some b → w'.heap[b]? = w.heap[b]?) : ObjOk Mx R2 w' k o' ∧ blk R2 k o' = blk R h o ∧ verOf o' = verOf o := by
  cases o with
  | dead => simp only [snapObj, Option.some.injEq] at hso; subst hso; exact ⟨trivial, rfl, rfl⟩
  | nilg ag sz =>
    simp only [snapObj, Option.some.injEq] at hso; subst hso
    obtain ⟨b, n, hr⟩ := ho
    exact ⟨⟨b, n, hR _ _ hr⟩, rfl, rfl⟩
  | box ty cs =>
    simp only [snapObj, Option.map_eq_some_iff] at hso
    obtain ⟨cs', hc, rfl⟩ := hso
    obtain ⟨b, c, n, vals, hr, hh, hl⟩ := ho
    refine ⟨⟨b, c, n, vals, hR _ _ hr, by rw [hheap b (by simp [blk, hr])]; exact hh, mapO_repL (fun v v' x h1 h2 => snap_ok g hp _ v v' x h1 h2) hc hl⟩, by simp [blk, hr, hR _ _ hr], rfl⟩
  | grow ty v ag sz rows =>
    simp only [snapObj, Option.map_eq_some_iff] at hso
    obtain ⟨rows', hc, rfl⟩ := hso
    obtain ⟨b, cap, vals, hr, hh, h1, h2, h3, hl, h4, h5⟩ := ho
    obtain ⟨c1, c2, c3⟩ := mapO2_ok hc
    refine ⟨⟨b, cap, vals, hR _ _ hr, by rw [hheap b (by simp [blk, hr])]; exact hh, h1, by omega, c2 sz h3, ?_, h4, h5⟩, by simp [blk, hr, hR _ _ hr], rfl⟩
    rw [c1]
    exact mapO_repL (fun v v' x h1 h2 => snap_ok g hp _ v v' x h1 h2) c3 hl
  | map es => exact ho.elim

theorem snapObjs_get {s : St} {p : SP} : ∀ {hs : List Nat} {os : St}, snapObjs s p hs = some os → os.length = hs.length ∧ ∀ i h, hs[i]? = some h → snapObj s p (s.at h) = some (os.at i)
  | [], os, e => by simp only [snapObjs, Option.some.injEq] at e; subst e; exact ⟨rfl, fun i h hi => by simp at hi⟩
  | x :: r, os, e => by
    simp only [snapObjs] at e
    split at e
    · rename_i o ho
      simp only [Option.map_eq_some_iff] at e
      obtain ⟨os', h1, rfl⟩ := e
      obtain ⟨h2, h3⟩ := snapObjs_get h1
      refine ⟨by simp [h2], fun i h hi => ?_⟩
      cases i with
      | zero => simp at hi; subst hi; simpa [St.at] using ho
      | succ i => simp at hi; have := h3 i h hi; simpa [St.at] using this
    · cases e

theorem setAll_len : ∀ (hs : List Nat) (s os : St), (setAll s hs os).length = s.length
  | [], s, os => by cases os <;> rfl
  | h :: hs, s, [] => rfl
  | h :: hs, s, o :: os => by simp only [setAll]; rw [setAll_len hs]; simp

theorem setAll_other : ∀ (hs : List Nat) (s os : St) (h : Nat), h ∉ hs → (setAll s hs os).at h = s.at h
  | [], s, os, h, _ => by cases os <;> rfl
  | x :: hs, s, [], h, _ => rfl
  | x :: hs, s, o :: os, h, hn => by
    simp only [List.mem_cons, not_or] at hn
    simp only [setAll]
    rw [setAll_other hs _ os h hn.2]
    rcases Nat.lt_or_ge x s.length with hl | hl
    · rw [at_set s o x h hl, if_neg hn.1]
    · simp only [St.at, List.getD]
      rw [List.getElem?_set_ne (Ne.symm hn.1)]

theorem setAll_get : ∀ (hs : List Nat) (s os : St), hs.Nodup → (∀ h ∈ hs, h < s.length) → hs.length ≤ os.length → ∀ i h, hs[i]? = some h → (setAll s hs os).at h = os.at i
  | [], s, os, _, _, _, i, h, hi => by simp at hi
  | x :: hs, s, [], _, _, hl, i, h, hi => by simp at hl
  | x :: hs, s, o :: os, hn, hlt, hl, i, h, hi => by
    simp only [List.nodup_cons] at hn
    simp only [setAll]
    cases i with
    | zero =>
      simp at hi; subst hi
      rw [setAll_other hs _ os x hn.1, at_set s o x x (hlt x (by simp)), if_pos rfl]
      rfl
    | succ i =>
      simp at hi
      rw [setAll_get hs _ os hn.2 (fun h hh => by simpa using hlt h (by simp [hh])) (by simpa using hl) i h hi]
      simp [St.at]

/-- The handles' new names, inside. -/
def Rin (R : Hm) (hs : List Nat) : Hm := fun i v => match hs[i]? with
  | some h => R h v
  | none => none

theorem in_good {M R S w} (g : Good M R S w) {hs : List Nat} (hn : hs.Nodup) {si : St} (hsi : snapObjs S (spIn hs) hs = some si) (p : SP) (hpm : p.m = idxOf hs) (hps : p.sn = false) (hpr : p.rd = false) :
    Good M (Rin R hs) si w ∧ SPok p M M R (Rin R hs) S w := by
  have hnames : ∀ h k, idxOf hs h = some k → ∀ v x, R h v = some x → Rin R hs k v = some x := by
    intro h k hk v x hx
    simp only [Rin, idxOf_some hk]; exact hx
  have hok : SPok (spIn hs) M M R (Rin R hs) S w := ⟨Mem.le_refl M, hnames, fun h => by rcases h with h | h <;> cases h⟩
  obtain ⟨hl, hget⟩ := snapObjs_get hsi
  have key : ∀ i h, hs[i]? = some h → ObjOk M (Rin R hs) w i (si.at i) ∧ blk (Rin R hs) i (si.at i) = blk R h (S.at h) ∧ verOf (si.at i) = verOf (S.at h) := by
    intro i h hi
    exact snapObj_ok g hok (hget i h hi) w (g.objs h) (fun v x hx => by simp only [Rin, hi]; exact hx) (fun _ _ => rfl)
  have hdead : ∀ i, hs[i]? = none → si.at i = .dead := by
    intro i hi
    have : hs.length ≤ i := by simpa using hi
    simp only [St.at, List.getD]
    rw [List.getElem?_eq_none (by omega)]; rfl
  refine ⟨⟨g.mem, ?_, ?_, ?_, ?_, ?_, g.glob, g.pins⟩, ⟨Mem.le_refl M, fun h k hk => hnames h k (by rw [← hpm]; exact hk), fun h => by rcases h with h | h <;> simp_all⟩⟩
  · intro i
    cases hi : hs[i]? with
    | none => rw [hdead i hi]; trivial
    | some h => exact (key i h hi).1
  · intro i j b hij hb hb'
    cases hi : hs[i]? with
    | none => rw [hdead i hi] at hb; cases hb
    | some h =>
      cases hj : hs[j]? with
      | none => rw [hdead j hj] at hb'; cases hb'
      | some h' =>
        rw [(key i h hi).2.1] at hb
        rw [(key j h' hj).2.1] at hb'
        have : h ≠ h' := by
          intro e; subst e
          have h1 := idxOf_get hn hi
          have h2 := idxOf_get hn hj
          rw [h1] at h2; cases h2; exact hij rfl
        exact g.dist h h' b this hb hb'
  · intro i b o hb
    cases hi : hs[i]? with
    | none => rw [hdead i hi] at hb; cases hb
    | some h => rw [(key i h hi).2.1] at hb; exact g.sep h b o hb
  · intro i v x hx
    simp only [Rin] at hx
    split at hx
    · rename_i h hi
      rw [hl]
      rcases Nat.lt_or_ge i hs.length with h1 | h1
      · exact h1
      · rw [List.getElem?_eq_none h1] at hi; cases hi
    · cases hx
  · intro i v hv v' hlt
    cases hi : hs[i]? with
    | none => rw [hdead i hi] at hv; cases hv
    | some h =>
      rw [(key i h hi).2.2] at hv
      simp only [Rin, hi]
      exact g.vers h v hv v' hlt

open Classical in
/-- The handles' names behind the call. -/
noncomputable def Rout (R R' : Hm) (hs : List Nat) (n : Nat) (keep : Bool) : Hm := fun h v => match idxOf hs h with
  | some i => R' i v
  | none => if keep = true ∧ n ≤ h then R' (hs.length + (h - n)) v else R h v

theorem inout_back {c M R S w} (hi : Inv c M R S w) {hs : List Nat} (hn : hs.Nodup) (hlt : ∀ h ∈ hs, h < S.length) {si : St} (hsi : snapObjs S (spIn hs) hs = some si)
    {M' R' s' w'} (hM : M.le M') (hR : (Rin R hs).le R') (h : Inv ⟨w, lv (Rin R hs) si, M⟩ M' R' s' w') {keep : Bool} {v v' : V} {x : Value} {S'' : St} (hb : inoutBack hs keep S s' v = some (v', S'')) (hv : Rep M' R' v x) :
    ∃ M2 R2, M.le M2 ∧ R.le R2 ∧ Inv c M2 R2 S'' w' ∧ Rep M2 R2 v' x := by
  unfold inoutBack at hb
  cases hble : Nat.ble hs.length s'.length with
  | false => rw [hble] at hb; cases hb
  | true =>
  rw [hble] at hb
  have hble := Nat.le_of_ble_eq_true hble
  simp only [cond_true] at hb
  split at hb
  · rename_i x' os hsn hos
    simp only [Option.some.injEq, Prod.mk.injEq] at hb
    obtain ⟨rfl, hS2⟩ := hb
    obtain ⟨gin, _⟩ := in_good hi.good hn hsi (spIn hs) rfl rfl rfl
    obtain ⟨hsl, hsget⟩ := snapObjs_get hsi
    have hinok := snapObjs_get hsi
    let p := spBack hs S.length keep false
    let R2 := Rout R R' hs S.length keep
    let M2 := freezeMem p.m M' R' s' w'
    have hpm : p.m = (spBack hs S.length keep true).m := rfl
    -- names
    have hin : ∀ i h', hs[i]? = some h' → p.m i = some h' := by
      intro i h' hi'
      have hl : i < hs.length := by
        rcases Nat.lt_or_ge i hs.length with h1 | h1
        · exact h1
        · rw [List.getElem?_eq_none h1] at hi'; cases hi'
      show (bif Nat.blt i hs.length then hs[i]? else _) = _
      have : Nat.blt i hs.length = true := Nat.ble_eq_true_of_le hl
      rw [this]; exact hi'
    have hnm : ∀ i k, p.m i = some k → (hs[i]? = some k) ∨ (keep = true ∧ hs.length ≤ i ∧ k = S.length + (i - hs.length)) := by
      intro i k hk
      have hk' : (bif Nat.blt i hs.length then hs[i]? else bif keep then some (S.length + (i - hs.length)) else none) = some k := hk
      cases hbl : Nat.blt i hs.length with
      | true => rw [hbl] at hk'; exact .inl hk'
      | false =>
        rw [hbl] at hk'
        cases keep with
        | false => cases hk'
        | true =>
          simp only [cond_false, cond_true, Option.some.injEq] at hk'
          refine .inr ⟨rfl, ?_, hk'.symm⟩
          rcases Nat.lt_or_ge i hs.length with h1 | h1
          · have : Nat.blt i hs.length = true := Nat.ble_eq_true_of_le h1
            rw [this] at hbl; cases hbl
          · exact h1
    have hnone : ∀ i, p.m i = none → hs.length ≤ i := by
      intro i hi'
      rcases Nat.lt_or_ge i hs.length with h1 | h1
      · rw [hin i hs[i] (by simp [h1])] at hi'; cases hi'
      · exact h1
    have hnotin : ∀ j, idxOf hs (S.length + j) = none := by
      intro j
      cases he : idxOf hs (S.length + j) with
      | none => rfl
      | some i =>
        have := hlt _ (List.mem_of_getElem? (idxOf_some he))
        omega
    have hR2in : ∀ i h', hs[i]? = some h' → ∀ u, R2 h' u = R' i u := by
      intro i h' hi' u
      show (match idxOf hs h' with | some i => R' i u | none => _) = _
      rw [idxOf_get hn hi']
    have hR2new : keep = true → ∀ j u, R2 (S.length + j) u = R' (hs.length + j) u := by
      intro hk j u
      show (match idxOf hs (S.length + j) with | some i => R' i u | none => if keep = true ∧ S.length ≤ S.length + j then R' (hs.length + (S.length + j - S.length)) u else R (S.length + j) u) = _
      rw [hnotin j, if_pos ⟨hk, by omega⟩, Nat.add_sub_cancel_left]
    have hR2old : ∀ h', h' ∉ hs → h' < S.length → ∀ u, R2 h' u = R h' u := by
      intro h' hni hl u
      show (match idxOf hs h' with | some i => R' i u | none => if keep = true ∧ S.length ≤ h' then _ else R h' u) = _
      cases he : idxOf hs h' with
      | some i => exact absurd (List.mem_of_getElem? (idxOf_some he)) hni
      | none => simp only; rw [if_neg (by omega)]
    have hnames : ∀ i k, p.m i = some k → ∀ u y, R' i u = some y → R2 k u = some y := by
      intro i k hk u y hy
      rcases hnm i k hk with h1 | ⟨h1, h2, rfl⟩
      · rw [hR2in i k h1]; exact hy
      · rw [hR2new h1 (i - hs.length), show hs.length + (i - hs.length) = i by omega]; exact hy
    have hsp : SPok p M' M2 R' R2 s' w' := spok_freeze p M' R' R2 s' w' h.good hnames
    have hsp2 : SPok (spBack hs S.length keep true) M' M2 R' R2 s' w' := ⟨hsp.le, hsp.names, hsp.data⟩
    have hMM : M.le M2 := Mem.le_trans hM hsp.le
    have hRR : R.le R2 := by
      intro h' u y hy
      by_cases hm : h' ∈ hs
      · obtain ⟨i, hil, rfl⟩ := List.getElem_of_mem hm
        rw [hR2in i hs[i] (by simp [hil])]
        exact hR i u y (by simp only [Rin]; simp [hil]; exact hy)
      · rw [hR2old h' hm (hi.good.fresh h' u y hy)]; exact hy
    -- the objects behind the call
    obtain ⟨hol, hoget⟩ := snapObjs_get hos
    have hrange : ∀ i, i < (bif keep then s'.length else hs.length) → (List.range (bif keep then s'.length else hs.length))[i]? = some i := by
      intro i hi'; simp [hi']
    have hlow : hs.length ≤ (bif keep then s'.length else hs.length) := by
      cases keep with
      | false => exact Nat.le_refl _
      | true => exact hble
    have hinj : ∀ i j k, p.m i = some k → p.m j = some k → i = j := by
      intro i j k h1 h2
      rcases hnm i k h1 with a | ⟨_, a1, a2⟩ <;> rcases hnm j k h2 with b | ⟨_, b1, b2⟩
      · have e1 := idxOf_get hn a
        have e2 := idxOf_get hn b
        rw [e1] at e2; cases e2; rfl
      · have := hlt k (List.mem_of_getElem? a); omega
      · have := hlt k (List.mem_of_getElem? b); omega
      · omega
    have hobj : ∀ i k, i < (bif keep then s'.length else hs.length) → p.m i = some k → ObjOk M2 R2 w' k (os.at i) ∧ blk R2 k (os.at i) = blk R' i (s'.at i) ∧ verOf (os.at i) = verOf (s'.at i) := by
      intro i k hil hk
      exact snapObj_ok h.good hsp (hoget i i (hrange i hil)) w' (h.good.objs i) (fun u y hy => hnames i k hk u y hy) (fun _ _ => rfl)
    have hslen : (setAll S hs os).length = S.length := setAll_len hs S os
    have hat : ∀ k, (∃ i, i < (bif keep then s'.length else hs.length) ∧ p.m i = some k ∧ S''.at k = os.at i) ∨ (k ∉ hs ∧ k < S.length ∧ S''.at k = S.at k) ∨ S''.at k = .dead := by
      intro k
      have hsplit : S''.at k = if k < S.length then (setAll S hs os).at k else St.at (List.drop hs.length os) (k - S.length) := by
        rw [← hS2]
        simp only [St.at, List.getD]
        split
        · rw [List.getElem?_append_left (by rw [hslen]; assumption)]
        · rw [List.getElem?_append_right (by rw [hslen]; omega), hslen]
      by_cases hm : k ∈ hs
      · obtain ⟨i, hil, rfl⟩ := List.getElem_of_mem hm
        refine .inl ⟨i, Nat.lt_of_lt_of_le hil hlow, hin i hs[i] (by simp [hil]), ?_⟩
        rw [hsplit, if_pos (hlt _ hm)]
        exact setAll_get hs S os hn hlt (by rw [hol]; simpa using hlow) i hs[i] (by simp [hil])
      · by_cases hl : k < S.length
        · refine .inr (.inl ⟨hm, hl, ?_⟩)
          rw [hsplit, if_pos hl, setAll_other hs S os k hm]
        · rw [if_neg hl] at hsplit
          have hd : St.at (List.drop hs.length os) (k - S.length) = os.at (hs.length + (k - S.length)) := by simp [St.at]
          rw [hd] at hsplit
          by_cases hb : hs.length + (k - S.length) < os.length
          · have hol' : os.length = (bif keep then s'.length else hs.length) := by simpa using hol
            cases hkp : keep with
            | false => rw [hkp] at hol'; simp only [cond_false] at hol'; omega
            | true =>
              refine .inl ⟨hs.length + (k - S.length), by rw [← hkp, ← hol']; exact hb, ?_, hsplit⟩
              show (bif Nat.blt _ hs.length then _ else bif keep then _ else none) = _
              have : Nat.blt (hs.length + (k - S.length)) hs.length = false := by
                cases hbl : Nat.blt (hs.length + (k - S.length)) hs.length with
                | false => rfl
                | true => have := Nat.le_of_ble_eq_true hbl; omega
              rw [this, hkp]
              simp only [cond_false, cond_true]
              congr 1; omega
          · refine .inr (.inr ?_)
            rw [hsplit]
            simp only [St.at, List.getD]
            rw [List.getElem?_eq_none (by omega)]; rfl
    -- blocks of those that did not go
    have hother : ∀ k b, k ∉ hs → k < S.length → blk R2 k (S.at k) = some b → blk R k (S.at k) = some b := by
      intro k b hm hl hb
      rw [← hb]
      cases S.at k <;> simp only [blk, hR2old k hm hl]
    have hfar : ∀ k b, k ∉ hs → blk R k (S.at k) = some b → b < w.heap.size ∧ ∀ j, ¬ lv (Rin R hs) si j b := by
      intro k b hm hb
      refine ⟨(hi.good.objs k).blk_lt hb, fun j hj => ?_⟩
      replace hj : blk (Rin R hs) j (si.at j) = some b := hj
      cases hji : hs[j]? with
      | none =>
        have : si.at j = .dead := by
          have : hs.length ≤ j := by simpa using hji
          simp only [St.at, List.getD]
          rw [List.getElem?_eq_none (by omega)]; rfl
        rw [this] at hj; cases hj
      | some h' =>
        have := (snapObj_ok hi.good (in_good hi.good hn hsi (spIn hs) rfl rfl rfl).2 (hsget j h' hji) w (hi.good.objs h') (k := j) (fun v x hx => by simp only [Rin, hji]; exact hx) (fun _ _ => rfl)).2.1
        rw [this] at hj
        refine hi.good.dist k h' b ?_ hb hj
        intro e; subst e; exact hm (List.mem_of_getElem? hji)
    have hsame : ∀ k b, k ∉ hs → blk R k (S.at k) = some b → w'.heap[b]? = w.heap[b]? := by
      intro k b hm hb
      obtain ⟨h1, h2⟩ := hfar k b hm hb
      exact h.cxt.keep b h1 h2
    -- a block inside is none of theirs
    have happart : ∀ i k b, k ∉ hs → blk R k (S.at k) = some b → blk R' i (s'.at i) ≠ some b := by
      intro i k b hm hb hb'
      obtain ⟨h1, h2⟩ := hfar k b hm hb
      rcases h.cxt.own i b hb' with h3 | h3
      · exact h2 i h3
      · exact absurd h3 (by show ¬ (w.heap.size ≤ b); omega)
    have hmemcases : ∀ b o y, M2 b o = some y → M b o = some y ∨ w.heap.size ≤ b := by
      intro b o y hy
      rcases freeze_cases hy with h1 | ⟨j, hj, hjb⟩
      · exact h.cxt.new b o y h1
      · rcases h.cxt.own j b hjb with h2 | h2
        · exfalso
          have hjl := hnone j hj
          replace h2 : blk (Rin R hs) j (si.at j) = some b := h2
          have : si.at j = .dead := by
            simp only [St.at, List.getD]
            rw [List.getElem?_eq_none (by omega)]; rfl
          rw [this] at h2; cases h2
        · exact .inr h2
    have hblkin : ∀ i k b, i < (bif keep then s'.length else hs.length) → p.m i = some k → blk R2 k (os.at i) = some b → blk R' i (s'.at i) = some b := by
      intro i k b h1 h2 h3
      rw [(hobj i k h1 h2).2.1] at h3; exact h3
    refine ⟨M2, R2, hMM, hRR, ⟨⟨?_, ?_, ?_, ?_, ?_, ?_, Mem.le_trans hi.good.glob hMM, h.good.pins⟩, ⟨h.cxt.os.trans hi.cxt.os, h.cxt.tape.trans hi.cxt.tape, h.cxt.output.trans hi.cxt.output, Nat.le_trans hi.cxt.size h.cxt.size, ?_, ?_, ?_⟩⟩, ?_⟩
    · intro b o y hy; exact freeze_mem h.good b o y hy
    · intro k
      rcases hat k with ⟨i, h1, h2, h3⟩ | ⟨h1, h2, h3⟩ | h3
      · rw [h3]; exact (hobj i k h1 h2).1
      · rw [h3]; exact (hi.good.objs k).mono hMM hRR (fun b hb => hsame k b h1 hb)
      · rw [h3]; trivial
    · intro k1 k2 b hne hb1 hb2
      rcases hat k1 with ⟨i, a1, a2, a3⟩ | ⟨a1, a2, a3⟩ | a3
      · rw [a3] at hb1
        have hb1 := hblkin i k1 b a1 a2 hb1
        rcases hat k2 with ⟨j, c1, c2, c3⟩ | ⟨c1, c2, c3⟩ | c3
        · rw [c3] at hb2
          have hb2 := hblkin j k2 b c1 c2 hb2
          refine h.good.dist i j b ?_ hb1 hb2
          intro e; subst e; rw [a2] at c2; cases c2; exact hne rfl
        · rw [c3] at hb2
          exact happart i k2 b c1 (hother k2 b c1 c2 hb2) hb1
        · rw [c3] at hb2; cases hb2
      · rw [a3] at hb1
        have hb1 := hother k1 b a1 a2 hb1
        rcases hat k2 with ⟨j, c1, c2, c3⟩ | ⟨c1, c2, c3⟩ | c3
        · rw [c3] at hb2
          exact happart j k1 b a1 hb1 (hblkin j k2 b c1 c2 hb2)
        · rw [c3] at hb2
          exact hi.good.dist k1 k2 b hne hb1 (hother k2 b c1 c2 hb2)
        · rw [c3] at hb2; cases hb2
      · rw [a3] at hb1; cases hb1
    · intro k b o hb
      cases hm2 : M2 b o with
      | none => rfl
      | some y =>
        exfalso
        rcases hat k with ⟨i, a1, a2, a3⟩ | ⟨a1, a2, a3⟩ | a3
        · rw [a3] at hb
          have hb := hblkin i k b a1 a2 hb
          rcases freeze_cases hm2 with h1 | ⟨j, hj, hjb⟩
          · rw [h.good.sep i b o hb] at h1; cases h1
          · refine h.good.dist i j b ?_ hb hjb
            intro e; subst e; rw [a2] at hj; cases hj
        · rw [a3] at hb
          have hb := hother k b a1 a2 hb
          rcases hmemcases b o y hm2 with h1 | h1
          · rw [hi.good.sep k b o hb] at h1; cases h1
          · have := (hfar k b a1 hb).1; omega
        · rw [a3] at hb; cases hb
    · intro k u y hy
      have hlen2 : S''.length = S.length + (os.length - hs.length) := by rw [← hS2]; simp [hslen]
      have hol' : os.length = (bif keep then s'.length else hs.length) := by simpa using hol
      by_cases hm : k ∈ hs
      · have := hlt k hm; omega
      · by_cases hl : k < S.length
        · omega
        · -- a new one, or none
          have hy' : (match idxOf hs k with | some i => R' i u | none => if keep = true ∧ S.length ≤ k then R' (hs.length + (k - S.length)) u else R k u) = some y := hy
          rw [show k = S.length + (k - S.length) by omega, hnotin (k - S.length)] at hy'
          simp only at hy'
          split at hy'
          · rename_i hc
            have := h.good.fresh _ _ _ hy'
            rw [hc.1] at hol'
            simp only [cond_true] at hol'
            omega
          · have := hi.good.fresh _ _ _ hy'; omega
    · intro k u hu u' hlt'
      rcases hat k with ⟨i, a1, a2, a3⟩ | ⟨a1, a2, a3⟩ | a3
      · rw [a3, (hobj i k a1 a2).2.2] at hu
        have := h.good.vers i u hu u' hlt'
        rcases hnm i k a2 with b1 | ⟨b1, b2, rfl⟩
        · rw [hR2in i k b1]; exact this
        · rw [hR2new b1 (i - hs.length), show hs.length + (i - hs.length) = i by omega]; exact this
      · rw [a3] at hu
        rw [hR2old k a1 a2]
        exact hi.good.vers k u hu u' hlt'
      · rw [a3] at hu; cases hu
    · intro b hb hd
      rw [h.cxt.keep b (Nat.lt_of_lt_of_le hb hi.cxt.size) ?_]
      · exact hi.cxt.keep b hb hd
      · intro j hj
        replace hj : blk (Rin R hs) j (si.at j) = some b := hj
        cases hji : hs[j]? with
        | none =>
          have : si.at j = .dead := by
            have : hs.length ≤ j := by simpa using hji
            simp only [St.at, List.getD]
            rw [List.getElem?_eq_none (by omega)]; rfl
          rw [this] at hj; cases hj
        | some h' =>
          have := (snapObj_ok hi.good (in_good hi.good hn hsi (spIn hs) rfl rfl rfl).2 (hsget j h' hji) w (hi.good.objs h') (k := j) (fun v x hx => by simp only [Rin, hji]; exact hx) (fun _ _ => rfl)).2.1
          rw [this] at hj
          exact (hi.cxt.own h' b hj).elim (hd h') (fun h => by omega)
    · intro k b hb
      rcases hat k with ⟨i, a1, a2, a3⟩ | ⟨a1, a2, a3⟩ | a3
      · rw [a3] at hb
        have hb := hblkin i k b a1 a2 hb
        rcases h.cxt.own i b hb with h1 | h1
        · replace h1 : blk (Rin R hs) i (si.at i) = some b := h1
          rcases hnm i k a2 with b1 | ⟨b1, b2, _⟩
          · have := (snapObj_ok hi.good (in_good hi.good hn hsi (spIn hs) rfl rfl rfl).2 (hsget i k b1) w (hi.good.objs k) (k := i) (fun v x hx => by simp only [Rin, b1]; exact hx) (fun _ _ => rfl)).2.1
            rw [this] at h1
            exact hi.cxt.own k b h1
          · have : si.at i = .dead := by
              simp only [St.at, List.getD]
              rw [List.getElem?_eq_none (by omega)]; rfl
            rw [this] at h1; cases h1
        · exact .inr (Nat.le_trans hi.cxt.size h1)
      · rw [a3] at hb
        exact hi.cxt.own k b (hother k b a1 a2 hb)
      · rw [a3] at hb; cases hb
    · intro b o y hy
      rcases hmemcases b o y hy with h1 | h1
      · exact hi.cxt.new b o y h1
      · exact .inr (Nat.le_trans hi.cxt.size h1)
    · exact snap_ok h.good hsp2 _ _ _ _ hsn hv
  · cases hb

theorem inout_wp {P : Program} {K : Calls} (hK : Sound P K) {f : Nat} {args : List V} {vals : List Value} {r : OR} {c M R S w} (hi : Inv c M R S w) (hv : RepL M R args vals) {keep : Bool} (h : inoutCall K keep f args S = some r)
    {o : Oper} {a : Act} {next : Act → World → Prop} {Q : Exit → Act → World → Prop} (ho : (execOp a.eval o).run P w = (callFunc f vals.toArray).run P w) (hk : KontR c M R a o next Q r) : o.wp P a w next Q := by
  unfold inoutCall at h
  have hn := reach_nodup S 64 (V.hss args) [] (by simp)
  generalize reach S 64 (V.hss args) [] = hs at h hn
  cases hall : hs.all (fun h => Nat.blt h S.length) with
  | false => rw [hall] at h; cases h
  | true =>
    rw [hall] at h
    simp only [cond_true] at h
    have hlt : ∀ h ∈ hs, h < S.length := fun h hh => Nat.le_of_ble_eq_true (List.all_eq_true.1 hall h hh)
    split at h
    · rename_i as si has hsi
      obtain ⟨gin, hok⟩ := in_good hi.good hn hsi { spIn hs with fg := true } rfl rfl rfl
      have hva : RepL M (Rin R hs) as vals := mapO_repL (fun v v' x h1 h2 => snap_ok hi.good hok _ v v' x h1 h2) has hv
      cases hr : K f as si with
      | none => simp [hr] at h
      | some out =>
        have hs' := hK f as si out hr M (Rin R hs) w vals gin hva
        refine callsem_wp ho hs' fun e w' hb => ?_
        cases out with
        | ret v s' =>
          simp only [hr, Option.map_eq_some_iff] at h
          obtain ⟨⟨v', S''⟩, hib, rfl⟩ := h
          obtain ⟨x, M', R', rfl, h1, h2, h3, h4⟩ := hb
          obtain ⟨M2, R2, q1, q2, q3, q4⟩ := inout_back hi hn hlt hsi h1 h2 h3 hib h4
          exact .inl ⟨x, rfl, hk x w' M2 R2 q1 q2 q3 q4⟩
        | pan v s' =>
          simp only [hr, Option.map_eq_some_iff] at h
          obtain ⟨⟨v', S''⟩, hib, rfl⟩ := h
          obtain ⟨x, M', R', rfl, h1, h2, h3, h4⟩ := hb
          obtain ⟨M2, R2, q1, q2, q3, q4⟩ := inout_back hi hn hlt hsi h1 h2 h3 hib h4
          exact .inr ⟨_, rfl, hk x w' M2 R2 q1 q2 q3 q4⟩
    · cases h

theorem call_wp {P : Program} {K : Calls} (hK : Sound P K) {m : CM} {f : Nat} {args : List V} {vals : List Value} {r : OR} {c M R S w} (hi : Inv c M R S w) (hv : RepL M R args vals) (h : callAs K m f args S = some r)
    {o : Oper} {a : Act} {next : Act → World → Prop} {Q : Exit → Act → World → Prop} (ho : (execOp a.eval o).run P w = (callFunc f vals.toArray).run P w) (hk : KontR c M R a o next Q r) : o.wp P a w next Q := by
  cases m with
  | closed => exact closed_wp hK hi hv h ho hk
  | drop => exact inout_wp hK hi hv h ho hk
  | keep => exact inout_wp hK hi hv h ho hk

end Ab

/-  Nil slices that begin to grow. -/
namespace Ab
open Go
variable [Globs]

theorem RepL.swap {M R} {vs : List V} {xs : List Value} (h : RepL M R vs xs) {i : Nat} {v v' : V} (hi : vs[i]? = some v) (hv : ∀ x, Rep M R v x → Rep M R v' x) : RepL M R (vs.set i v') xs := by
  induction vs generalizing xs i with
  | nil => simp at hi
  | cons u vs ih => cases h with
    | cons _ x _ xs h hs => cases i with
      | zero => simp at hi; subst hi; exact .cons _ _ _ _ (hv x h) hs
      | succ i => simp at hi; exact .cons _ _ _ _ h (ih hs hi)

theorem Inv.newNil {c M R S w} (hi : Inv c M R S w) (ag : Bool) (n : Nat) :
    R.le (R.put S.length 0 (0, 0, 0)) ∧ Inv c M (R.put S.length 0 (0, 0, 0)) (S ++ [.nilg ag n]) w := by
  have hn := hi.good.fresh_none S.length 0 (Nat.le_refl _)
  have hR := Hm.le_put R S.length 0 (0, 0, 0) hn
  refine ⟨hR, hi.upd S.length rfl rfl rfl (Nat.le_refl _) (Mem.le_refl M) hR (fun b hb _ => rfl) ?_ (fun b o x h => .inl h) ?_ (by simp) ?_ ?_ ?_⟩
  · intro h hne; rw [at_append, if_neg hne]
  · intro h v x hx
    simp only [Hm.put] at hx
    split at hx
    · rename_i e'; exact .inr ⟨e'.1, by simp⟩
    · exact .inl hx
  · rw [at_append, if_pos rfl]; exact ⟨0, 0, Hm.put_same _ _ _ _⟩
  · rw [at_append, if_pos rfl]; intro b hb; simp [blk] at hb
  · rw [at_append, if_pos rfl]
    intro v h v' hv
    simp only [verOf, Option.some.injEq] at h; subst h
    simp only [Hm.put]
    rw [if_neg (by omega)]
    exact hi.good.fresh_none _ _ (Nat.le_refl _)

theorem Inv.reBox {c M R S w} (hi : Inv c M R S w) {h0 : Nat} {cs cs' : List V} {ty : Nat} (hat : S.at h0 = .box ty cs) (hl : h0 < S.length) (hc : ∀ vals, RepL M R cs vals → RepL M R cs' vals) : Inv c M R (S.set h0 (.box ty cs')) w := by
  have ho := hi.good.objs h0
  rw [hat] at ho
  obtain ⟨b, cc, n, vals, hr, hh, hrl⟩ := ho
  refine hi.upd h0 rfl rfl rfl (Nat.le_refl _) (Mem.le_refl M) (Hm.le_refl R) (fun b hb _ => rfl) ?_ (fun b o x h => .inl h) (fun h v x hx => .inl hx) (by simp) ?_ ?_ ?_
  · intro h hne; rw [at_set _ _ _ _ hl, if_neg hne]
  · rw [at_set _ _ _ _ hl, if_pos rfl]; exact ⟨b, cc, n, vals, hr, hh, hc _ hrl⟩
  · rw [at_set _ _ _ _ hl, if_pos rfl, hat]; intro b hb; exact .inl hb
  · rw [at_set _ _ _ _ hl, if_pos rfl]; intro v h; cases h

theorem pregrow_ok {c M w} {S : St} {ty : Nat} : ∀ (gl : List (Nat × Bool × Nat)) (cs : List V) (os : St) (R : Hm), Inv c M R (S ++ .box ty cs :: os) w →
    ∃ R', R.le R' ∧ Inv c M R' (S ++ .box ty (pregrow (S.length + 1 + os.length) gl cs).1 :: (os ++ (pregrow (S.length + 1 + os.length) gl cs).2)) w
  | [], cs, os, R, h => ⟨R, Hm.le_refl R, by simpa [pregrow] using h⟩
  | (i, ag, n) :: r, cs, os, R, h => by
    unfold pregrow
    split
    · rename_i hci
      obtain ⟨hR, h1⟩ := h.newNil ag n
      have hlen : (S ++ Obj.box ty cs :: os).length = S.length + 1 + os.length := by simp; omega
      rw [hlen] at hR h1
      have hat : St.at ((S ++ Obj.box ty cs :: os) ++ [.nilg ag n]) S.length = .box ty cs := by simp [St.at, List.getD]
      have h2 := h1.reBox hat (by simp) (cs' := cs.set i (.gs (S.length + 1 + os.length) 0 0 0)) fun vals hv => hv.swap hci fun x hx => by
        cases hx with
        | sl0 _ a cap he => obtain ⟨rfl, rfl⟩ := he rfl; exact .gs0 _ 0 0 (Hm.put_same _ _ _ _)
        | sl _ _ _ _ _ _ hx => exact absurd rfl hx
      have e : List.set ((S ++ Obj.box ty cs :: os) ++ [.nilg ag n]) S.length (.box ty (cs.set i (.gs (S.length + 1 + os.length) 0 0 0))) = S ++ .box ty (cs.set i (.gs (S.length + 1 + os.length) 0 0 0)) :: (os ++ [.nilg ag n]) := by
        simp [List.set_append]
      rw [e] at h2
      obtain ⟨R', h3, h4⟩ := pregrow_ok r _ (os ++ [.nilg ag n]) _ h2
      refine ⟨R', Hm.le_trans hR h3, ?_⟩
      simpa [Nat.add_assoc] using h4
    · exact pregrow_ok r cs os R h

theorem op_alloc' {P : Program} {c M R S w} (hi : Inv c M R S w) {t : TypeId} {z : V} (hz : zeroOf P t = some z) (gl : List (Nat × Bool × Nat)) :
    VOk P c M R (Instr.alloc t true (.tuple #[])) w (.ptr S.length 0) (S ++ .box t (pregrow (S.length + 1) gl z.cells).1 :: (pregrow (S.length + 1) gl z.cells).2) := by
  obtain ⟨x, w', M', R', h1, h2, h3, h4, h5⟩ := op_alloc hi hz
  obtain ⟨R2, h6, h7⟩ := pregrow_ok gl z.cells [] R' h4
  exact ⟨x, w', M', R2, h1, h2, Hm.le_trans h3 h6, by simpa using h7, h5.mono (Mem.le_refl _) h6⟩

theorem op_box' {P : Program} {c M R S w} (hi : Inv c M R S w) {t : TypeId} {v : V} {x : Value} (hv : Rep M R v x) (ho : v.cells.all V.oneCell = true) (gl : List (Nat × Bool × Nat)) :
    VOk P c M R (Instr.box t x) w (.ptr S.length 0) (S ++ .box t (pregrow (S.length + 1) gl v.cells).1 :: (pregrow (S.length + 1) gl v.cells).2) := by
  obtain ⟨x, w', M', R', h1, h2, h3, h4, h5⟩ := op_box (P := P) (t := t) hi hv ho
  obtain ⟨R2, h6, h7⟩ := pregrow_ok gl v.cells [] R' h4
  exact ⟨x, w', M', R2, h1, h2, Hm.le_trans h3 h6, by simpa using h7, h5.mono (Mem.le_refl _) h6⟩

theorem op_nilS {P : Program} {c M R S w} (hi : Inv c M R S w) (ag : Bool) (n : Nat) : VOk P c M R (Pure.pure (Value.slice none 0 0)) w (.gs S.length 0 0 0) (S ++ [.nilg ag n]) := by
  obtain ⟨h1, h2⟩ := hi.newNil ag n
  exact ⟨_, w, M, _, by simp, Mem.le_refl _, h1, h2, .gs0 _ 0 0 (Hm.put_same _ _ _ _)⟩

end Ab

/-  Every instruction: what the abstract machine says, the model's operation does. -/
namespace Ab
open Go
variable [Globs]

section
variable {P : Program} {c : Ctx} {M : Mem} {R : Hm} {S : St} {w : World} {a : Act} {o : Oper} {next : Act → World → Prop} {Q : Exit → Act → World → Prop}

theorem vok_wp {sem : Sem Value} {v : V} {S' : St} (hv : VOk P c M R sem w v S') (ho : (execOp a.eval o) = (do pure (.value (← sem)) : Sem Next)) (hk : Kont c M R a o next v S') : o.wp P a w next Q := by
  obtain ⟨x, w', M', R', h1, h2, h3, h4, h5⟩ := hv
  unfold Oper.wp
  rw [ho]
  simp only [Sem.run_bind, h1, Result.andThen_ok, Sem.run_pure]
  exact hk x w' M' R' h2 h3 h4 h5

theorem uok_wp {sem : Sem Unit} {S' : St} (hv : UOk P c M R sem w S') (ho : (execOp a.eval o) = (do sem; pure .skip : Sem Next)) (hk : Kont c M R a o next .undef S') : o.wp P a w next Q := by
  obtain ⟨w', h1, h4⟩ := hv
  unfold Oper.wp
  rw [ho]
  simp only [Sem.run_bind, h1, Result.andThen_ok, Sem.run_pure]
  exact hk _ w' M R (Mem.le_refl M) (Hm.le_refl R) h4 .undef

/-- A value that is there. -/
theorem val_wp {v : V} {x : Value} (hi : Inv c M R S w) (hv : Rep M R v x) (ho : (execOp a.eval o).run P w = .ok (.value x) w) (hk : Kont c M R a o next v S) : o.wp P a w next Q := by
  unfold Oper.wp
  rw [ho]
  exact hk x w M R (Mem.le_refl M) (Hm.le_refl R) hi hv

theorem opt_rep {e : Env} (he : RepEnv M R e a.tmps) {x : Operand} {y : Opd} (h : trOpd x = some y) : Rep M R (y.get e) (a.eval x) := opd_rep he h

theorem minmax_run {ts : Array TypeId} {t : TypeId} {mx : Bool} {k : IntKind} {n m : Int} : (bif mx then Builtin.max_ ts t #[.int k n, .int k m] else Builtin.min_ ts t #[.int k n, .int k m]).run P w = .ok (.int k (if mx then max n m else min n m)) w := by
  cases mx
  · simp only [cond_false, Builtin.min_, List.foldlM_cons, List.foldlM_nil, Builtin.min2, Bool.false_eq_true, if_false, Sem.run_bind, Sem.run_pure, Result.andThen_ok]
    congr 2
    simp only [Int.min_def]; split <;> split <;> omega
  · simp only [cond_true, Builtin.max_, List.foldlM_cons, List.foldlM_nil, Builtin.max2, if_true, Sem.run_bind, Sem.run_pure, Result.andThen_ok]
    congr 2
    simp only [Int.max_def]; split <;> split <;> omega

theorem pureOp_some {s : St} {r : Option V} {q : OR} (h : pureOp s r = some q) : ∃ v, r = some v ∧ q = .val v s := by
  cases r with
  | none => cases h
  | some v => cases h; exact ⟨v, rfl, rfl⟩

theorem binV_run {op : BinOp} {vx vy v : V} {x y : Value} (hx : Rep M R vx x) (hy : Rep M R vy y) (h : binV op vx vy = some v) (t : TypeId) : ∃ z, (binOp op t x y).run P w = .ok z w ∧ Rep M R v z := by
  unfold binV at h
  split at h
  · rename_i k n k' m
    rw [hx.int_inv, hy.int_inv]
    split at h
    · obtain ⟨z, h1, h2⟩ := shiftBin_ok (P := P) (w := w) (k' := k') h t; exact ⟨z, h1, h2 M R⟩
    · obtain ⟨z, h1, h2⟩ := shiftBin_ok (P := P) (w := w) (k' := k') h t; exact ⟨z, h1, h2 M R⟩
    · rename_i hn1 hn2
      split at h
      · rename_i hkk; subst hkk
        obtain ⟨z, h1, h2⟩ := intBin_ok (P := P) (w := w) h t ⟨hn1, hn2⟩; exact ⟨z, h1, h2 M R⟩
      · cases h
  · obtain ⟨s, rfl, rfl⟩ := hx.str_inv
    obtain ⟨s', rfl, rfl⟩ := hy.str_inv
    obtain ⟨z, h1, h2⟩ := strBin_ok (P := P) (w := w) h t; exact ⟨z, h1, h2 M R⟩
  · rename_i k a k' b
    rw [hx.flt_inv, hy.flt_inv]
    split at h
    · rename_i hkk; subst hkk
      obtain ⟨z, h1, h2⟩ := fltBin_ok (P := P) (w := w) h t; exact ⟨z, h1, h2 M R⟩
    · cases h
  · cases h

theorem guard_bin {op : BinOp} {vx vy v : V} {x y : Value} (hx : Rep M R vx x) (hy : Rep M R vy y) (h : binV op vx vy = some v) (t : TypeId) (ox oy : Operand) : (eqGuard op t ox oy x y).run P w = .ok () w := by
  unfold binV at h
  split at h
  · rw [hx.int_inv, hy.int_inv]; cases op <;> rfl
  · obtain ⟨s, rfl, rfl⟩ := hx.str_inv
    obtain ⟨s', rfl, rfl⟩ := hy.str_inv
    cases op <;> rfl
  · rw [hx.flt_inv, hy.flt_inv]; cases op <;> rfl
  · cases h


theorem trEq_some {neg : Bool} {op : BinOp} {t : TypeId} {x y : Opd} {i : Ins} (h : trEq P neg op t x y = some i) : i = .bin op x y ∨ ∃ k, eqK P t = some k ∧ i = .eq neg k x y := by
  unfold trEq at h
  split at h
  · cases h; exact .inl rfl
  · cases h; exact .inl rfl
  · cases h; exact .inl rfl
  · simp only [Option.map_eq_some_iff] at h
    obtain ⟨k, h1, h2⟩ := h
    exact .inr ⟨k, h1, h2.symm⟩

theorem bin_wp {op : BinOp} {t : TypeId} {x y : Operand} {p q : Opd} {b : TypeId} {e : Env} {K : Calls} {r : OR} (hop : o.op = .binOp op t x y b) (hi : Inv c M R S w) (he : RepEnv M R e a.tmps) (hx : trOpd x = some p) (hy : trOpd y = some q)
    (h : insV K e S (.bin op p q) = some r) (hk : KontR c M R a o next Q r) : o.wp P a w next Q := by
  obtain ⟨v, hv, rfl⟩ := pureOp_some h
  have h1 := opd_rep he hx
  have h2 := opd_rep he hy
  obtain ⟨z, hz, hr⟩ := binV_run (P := P) (w := w) h1 h2 hv t
  refine val_wp hi hr ?_ hk
  unfold execOp; rw [hop]
  simp only [Sem.run_bind, guard_bin h1 h2 hv, Result.andThen_ok, hz, Sem.run_pure]

theorem eq_wp {neg : Bool} {op : BinOp} {t : TypeId} {x y : Operand} {p q : Opd} {b : TypeId} {e : Env} {K : Calls} {r : OR} {k : EqK} (hop : o.op = .binOp op t x y b) (hi : Inv c M R S w) (he : RepEnv M R e a.tmps) (hx : trOpd x = some p) (hy : trOpd y = some q)
    (hkk : eqK P t = some k) (hn : op = (bif neg then .neq else .eql))
    (h : insV K e S (.eq neg k p q) = some r) (hk : KontR c M R a o next Q r) : o.wp P a w next Q := by
  simp only [insV] at h
  split at h
  · rename_i rr hr
    cases h
    have h1 := opd_rep he hx
    have h2 := opd_rep he hy
    have := eqV_ok (w := w) hkk hn x y h1 h2 hr
    refine val_wp hi (.bool _) ?_ hk
    unfold execOp; rw [hop]
    rw [Sem.run_bind, this]
    simp only [Result.andThen_ok, Sem.run_pure]
  · cases h

theorem trOpd_opds {xs : List Operand} {ys : List Opd} (h : trOpds xs = some ys) {e : Env} (he : RepEnv M R e a.tmps) : RepL M R (ys.map (·.get e)) (xs.map a.eval) := opds_rep he h

theorem trOpds2 {xs : List Operand} {p q : Opd} (h : trOpds xs = some [p, q]) : ∃ x y, xs = [x, y] ∧ trOpd x = some p ∧ trOpd y = some q := by
  match xs, h with
  | [], h => cases h
  | [x], h => simp only [trOpds] at h; split at h <;> simp at h
  | [x, y], h =>
    simp only [trOpds] at h
    split at h
    · rename_i p' hp
      split at h
      · rename_i q' hq
        simp at h; obtain ⟨rfl, rfl⟩ := h; exact ⟨x, y, rfl, hp, hq⟩
      · simp at h
    · cases h
  | x :: y :: z :: zs, h =>
    simp only [trOpds] at h
    split at h
    · split at h
      · split at h
        · simp only [Option.map_map, Option.map_eq_some_iff] at h
          obtain ⟨u, _, hu⟩ := h
          simp at hu
        · simp at h
      · simp at h
    · cases h

theorem trOpds1 {xs : List Operand} {p : Opd} (h : trOpds xs = some [p]) : ∃ x, xs = [x] ∧ trOpd x = some p := by
  match xs, h with
  | [], h => cases h
  | [x], h =>
    simp only [trOpds] at h
    split at h
    · rename_i p' hp; simp at h; subst h; exact ⟨x, rfl, hp⟩
    · cases h
  | x :: y :: zs, h =>
    simp only [trOpds] at h
    split at h
    · split at h
      · simp only [Option.map_map, Option.map_eq_some_iff] at h
        obtain ⟨u, _, hu⟩ := h
        simp at hu
      · simp at h
    · cases h

theorem toList_eq {α : Type} {xs : Array α} {l : List α} (h : xs.toList = l) : xs = l.toArray := by rw [← h]

theorem call_ins {K : Calls} (hK : Sound P K) {g : Cfg} {cl : Call} {i : Ins} (hop : o.op = .call cl) (ht : trCall P g cl = some i) {e : Env} (hi : Inv c M R S w) (he : RepEnv M R e a.tmps) {r : OR} (h : insV K e S i = some r)
    (hk : KontR c M R a o next Q r) : o.wp P a w next Q := by
  unfold trCall at ht
  split at ht
  · rename_i f hc
    simp only [Option.map_eq_some_iff] at ht
    obtain ⟨as, has, rfl⟩ := ht
    simp only [insV] at h
    have hv := opds_rep he has
    refine call_wp hK hi hv h ?_ hk
    unfold execOp; rw [hop]
    have : (cl.args.map a.eval) = (cl.args.toList.map a.eval).toArray := by apply Array.toList_inj.1; rw [Array.toList_map]
    simp only [resolve, hc, Act.eval, Deferred.ofValue, Sem.run_bind, Sem.run_pure, Result.andThen_ok, invoke, Array.append_empty, Array.empty_append, this]
  · rename_i x hnf hc
    split at ht
    · rename_i y as hy has
      cases ht
      simp only [insV] at h
      split at h
      · rename_i fg first cap hf
        have hyr := opd_rep he hy
        rw [hf] at hyr
        have hargs := opds_rep he has
        generalize hxv : a.eval x = xv at hyr
        cases hyr with
        | fn _ _ _ fs bs h1 h2 =>
          refine call_wp hK hi ((h1.append hargs).append h2) h ?_ hk
          unfold execOp; rw [hop]
          have : (cl.args.map a.eval) = (cl.args.toList.map a.eval).toArray := by apply Array.toList_inj.1; rw [Array.toList_map]
          simp only [resolve, hc, hxv, Deferred.ofValue, Sem.run_bind, Sem.run_pure, Result.andThen_ok, invoke, this, List.append_toArray]
      · cases h
    · cases ht
  · rename_i hc
    split at ht
    · rename_i t x hts hxs
      obtain ⟨x0, hxl, hx0⟩ := trOpds1 hxs
      have hx := opd_rep he hx0
      have ho : ∀ ty : Nat, execOp a.eval o = (do pure (.value (← Builtin.len_ #[t] o.type #[a.eval x0])) : Sem Next) := by
        intro _
        unfold execOp; rw [hop]
        have e1 : cl.args.map a.eval = #[a.eval x0] := by rw [toList_eq hxl]; simp
        simp only [resolve, hc, e1, toList_eq hts]
        rfl
      split at ht
      · rename_i hu
        cases ht
        simp only [insV] at h
        cases hb : (x.get e).isStr == true with
        | false => rw [hb] at h; cases h
        | true =>
          rw [hb] at h
          obtain ⟨v, hv, rfl⟩ := pureOp_some h
          refine vok_wp (op_len_str hi hu rfl hx (fun _ => ?_) (fun h => absurd rfl h) hv) (ho 0) hk
          cases hg : x.get e <;> rw [hg] at hb <;> first | exact ⟨_, rfl⟩ | cases hb
      · rename_i el hu
        cases ht
        simp only [insV] at h
        cases hb : (x.get e).isStr == false with
        | false => rw [hb] at h; cases h
        | true =>
          rw [hb] at h
          obtain ⟨v, hv, rfl⟩ := pureOp_some h
          refine vok_wp (op_len_str hi hu rfl hx (fun h => by cases h) (fun _ b hb2 => ?_) hv) (ho 0) hk
          rw [hb2] at hb; cases hb
      · rename_i n el hu
        cases ht
        simp only [insV, Opd.get, Option.some.injEq] at h; subst h
        refine val_wp hi (.int _ _) ?_ hk
        rw [ho 0]
        have : (Builtin.len_ #[t] o.type #[a.eval x0]).run P w = .ok (.int .i64 n) w := by simp [Builtin.len_, run_underlying hu, goInt]
        simp only [Sem.run_bind, this, Result.andThen_ok, Sem.run_pure]
      · cases ht
    · cases ht
  · rename_i hc
    split at ht
    · rename_i t u x y hts hxs
      obtain ⟨x0, y0, hxl, hx0, hy0⟩ := trOpds2 hxs
      have hx := opd_rep he hx0
      have hy := opd_rep he hy0
      have ho : execOp a.eval o = (do pure (.value (← Builtin.append_ #[t, u] o.type #[a.eval x0, a.eval y0])) : Sem Next) := by
        unfold execOp; rw [hop]
        have e1 : cl.args.map a.eval = #[a.eval x0, a.eval y0] := by rw [toList_eq hxl]; simp
        simp only [resolve, hc, e1, toList_eq hts]
        rfl
      have main : ∀ el d, P.underlying t = some (.slice el) → P.underlying u = some d → isSeq d = true → (match aggT P el, szOf P el with
          | some ag, some n => bif appOk P el n then some (Ins.append el ag n x y) else none
          | _, _ => none) = some i → o.wp P a w next Q := by
        intro el d h1 h2 h3 h4
        split at h4
        · rename_i ag n hag hn
          cases hao : appOk P el n with
          | false => rw [hao] at h4; cases h4
          | true =>
            rw [hao] at h4; cases h4
            simp only [insV] at h
            cases r with
            | val v s' => exact vok_wp (op_append hi h1 h2 h3 hn hao hx hy h) ho hk
            | pan v s' =>
              exfalso
              unfold appendV at h
              repeat' split at h
              all_goals first | (cases h; done) | skip
        · cases h4
      split at ht
      · rename_i e1 e2 h1 h2; exact main e1 _ h1 h2 rfl ht
      · rename_i e1 h1 h2; exact main e1 _ h1 h2 rfl ht
      · cases ht
    · cases ht
  · rename_i hc
    split at ht
    · rename_i x y hxs
      cases ht
      obtain ⟨x0, y0, hxl, hx0, hy0⟩ := trOpds2 hxs
      have hx := opd_rep he hx0
      have hy := opd_rep he hy0
      simp only [insV] at h
      split at h
      · rename_i k n k' m hgx hgy
        split at h
        · rename_i hkk; subst hkk
          cases h
          rw [hgx] at hx; rw [hgy] at hy
          refine val_wp hi (.int _ _) ?_ hk
          unfold execOp; rw [hop]
          have e1 : cl.args.map a.eval = #[a.eval x0, a.eval y0] := by rw [toList_eq hxl]; simp
          simp only [resolve, hc, e1, hx.int_inv, hy.int_inv, Sem.run_bind, Sem.run_pure, Result.andThen_ok, invoke, builtin]
          have := minmax_run (P := P) (w := w) (ts := cl.argTypes) (t := o.type) (mx := false) (k := k) (n := n) (m := m)
          simp only [cond_false] at this
          rw [this]
          simp only [Result.andThen_ok, Sem.run_pure]
        · cases h
      · cases h
    · cases ht
  · rename_i hc
    split at ht
    · rename_i x y hxs
      cases ht
      obtain ⟨x0, y0, hxl, hx0, hy0⟩ := trOpds2 hxs
      have hx := opd_rep he hx0
      have hy := opd_rep he hy0
      simp only [insV] at h
      split at h
      · rename_i k n k' m hgx hgy
        split at h
        · rename_i hkk; subst hkk
          cases h
          rw [hgx] at hx; rw [hgy] at hy
          refine val_wp hi (.int _ _) ?_ hk
          unfold execOp; rw [hop]
          have e1 : cl.args.map a.eval = #[a.eval x0, a.eval y0] := by rw [toList_eq hxl]; simp
          simp only [resolve, hc, e1, hx.int_inv, hy.int_inv, Sem.run_bind, Sem.run_pure, Result.andThen_ok, invoke, builtin]
          have := minmax_run (P := P) (w := w) (ts := cl.argTypes) (t := o.type) (mx := true) (k := k) (n := n) (m := m)
          simp only [cond_true] at this
          rw [this]
          simp only [Result.andThen_ok, Sem.run_pure]
        · cases h
      · cases h
    · cases ht
  · rename_i hc
    split at ht
    · rename_i x hxs
      cases ht
      obtain ⟨x0, hxl, hx0⟩ := trOpds1 hxs
      have hx := opd_rep he hx0
      obtain ⟨u, rfl, hv⟩ := op_sdata (P := P) hi h hx cl.argTypes o.type
      refine vok_wp hv ?_ hk
      unfold execOp; rw [hop]
      have e1 : cl.args.map a.eval = #[a.eval x0] := by rw [toList_eq hxl]; simp
      simp only [resolve, hc, e1]
      rfl
    · cases ht
  · rename_i hc
    split at ht
    · rename_i pt it x y hts hxs
      split at ht
      · rename_i el hu
        cases hb : Nat.beq (P.cellsOf el) 1 with
        | false => rw [hb] at ht; cases ht
        | true =>
          rw [hb] at ht
          cases ht
          obtain ⟨x0, y0, hxl, hx0, hy0⟩ := trOpds2 hxs
          obtain ⟨u, S', rfl, hv⟩ := op_ustr (P := P) (it := it) (t := o.type) hi h (opd_rep he hx0) (opd_rep he hy0) hu (Nat.eq_of_beq_eq_true hb)
          refine vok_wp hv ?_ hk
          unfold execOp; rw [hop]
          have e1 : cl.args.map a.eval = #[a.eval x0, a.eval y0] := by rw [toList_eq hxl]; simp
          simp only [resolve, hc, e1, toList_eq hts]
          rfl
      · cases ht
    · cases ht
  · cases ht


theorem ptr_shape (hi : Inv c M R S w) {h : Nat} {x : Value} {ty : Nat} {cs : List V} (hx : Rep M R (.ptr h 0) x) (hat : S.at h = .box ty cs) : ∃ b, x = .pointer (some ⟨b, 0, none⟩) ∧ w.shape? b = some (ty, cs.length) := by
  have ho := hi.good.objs h
  rw [hat] at ho
  obtain ⟨b, cc, n, vals, hr, hh, hl⟩ := ho
  cases hx with
  | ptr _ _ b' c' n' hr' =>
    rw [hr] at hr'; cases hr'
    refine ⟨b, rfl, ?_⟩
    have := hl.length
    simp only [Array.length_toList] at this
    simp [World.shape?, hh, this]

theorem uns_ins {K : Calls} {e : Env} {ty n : Nat} {y : Opd} {r : OR} (h : insV K e S (.uns ty n y) = some r) : ∃ hh cs, y.get e = .ptr hh 0 ∧ S.at hh = .box ty cs ∧ cs.length = n ∧ r = .val (.ptr hh 0) S := by
  simp only [insV] at h
  split at h
  · rename_i hh hg
    split at h
    · rename_i ty' cs hat
      cases hb : (Nat.beq ty' ty && Nat.beq cs.length n) with
      | false => rw [hb] at h; cases h
      | true =>
        rw [hb] at h
        simp only [cond_true, Option.some.injEq] at h
        simp only [Bool.and_eq_true] at hb
        exact ⟨hh, cs, hg, by rw [hat, Nat.eq_of_beq_eq_true hb.1], Nat.eq_of_beq_eq_true hb.2, h.symm⟩
    · cases h
  · cases h

theorem hexec {x : Op} (hop : o.op = x) : execOp a.eval o = execOp a.eval { o with op := x } := by subst hop; rfl

theorem ins_wp {K : Calls} (hK : Sound P K) {g : Cfg} {i : Ins} (ht : trIns P g o.op = some i) {e : Env} (hi : Inv c M R S w) (he : RepEnv M R e a.tmps) {r : OR} (h : insV K e S i = some r)
    (hk : KontR c M R a o next Q r) : o.wp P a w next Q := by
  cases hop : o.op with
  | move x =>
    simp only [hop, trIns, Option.map_eq_some_iff] at ht
    obtain ⟨y, hy, rfl⟩ := ht
    simp only [insV, Option.some.injEq] at h; subst h
    exact val_wp hi (opd_rep he hy) (by rw [hexec hop]; simp only [execOp, Sem.run_pure]) hk
  | assign x =>
    simp only [hop, trIns, Option.map_eq_some_iff] at ht
    obtain ⟨y, hy, rfl⟩ := ht
    simp only [insV, Option.some.injEq] at h; subst h
    exact val_wp hi (opd_rep he hy) (by rw [hexec hop]; simp only [execOp, Sem.run_pure]) hk
  | pick p x y =>
    simp only [hop, trIns] at ht
    split at ht
    · rename_i p' x' y' hp hx hy
      cases ht
      simp only [insV] at h
      split at h
      · rename_i b hb
        cases h
        have hp' := opd_rep he hp
        rw [hb] at hp'
        refine val_wp (x := if b then a.eval x else a.eval y) hi ?_ ?_ hk
        · cases b
          · simpa using opd_rep he hy
          · simpa using opd_rep he hx
        · rw [hexec hop]; simp only [execOp, hp'.bool_inv, Sem.run_bind, asBool, Sem.run_pure, Result.andThen_ok]
      · cases h
    · cases ht
  | alloc t =>
    simp only [hop, trIns, Option.map_eq_some_iff] at ht
    obtain ⟨z, hz, rfl⟩ := ht
    simp only [insV, Option.some.injEq] at h; subst h
    exact vok_wp (op_alloc' hi hz _) (by rw [hexec hop]; rfl) hk
  | box t x =>
    simp only [hop, trIns, Option.map_eq_some_iff] at ht
    obtain ⟨y, hy, rfl⟩ := ht
    simp only [insV] at h
    split at h
    · rename_i hall
      cases h
      exact vok_wp (op_box' hi (opd_rep he hy) hall _) (by rw [hexec hop]; rfl) hk
    · cases h
  | build t ps =>
    simp only [hop, trIns] at ht
    split at ht
    · rename_i z fs hz hu
      split at ht
      · rename_i pl hpl
        simp only [Option.map_eq_some_iff] at ht
        obtain ⟨qs, hq, rfl⟩ := ht
        simp only [insV] at h
        split at h
        · rename_i cs hf
          cases h
          exact vok_wp (op_build_struct hi he hz hu hpl hq hf) (by rw [hexec hop]; rfl) hk
        · cases h
      · cases ht
    · rename_i z k el hz hu
      split at ht
      · rename_i n hn
        simp only [Option.map_eq_some_iff] at ht
        obtain ⟨qs, hq, rfl⟩ := ht
        simp only [insV] at h
        split at h
        · rename_i cs hf
          cases h
          exact vok_wp (op_build_array hi he hz hu hn hq hf) (by rw [hexec hop]; rfl) hk
        · cases h
      · cases ht
    · cases ht
  | buildSlice t n ps =>
    simp only [hop, trIns] at ht
    split at ht
    · rename_i el hu
      split at ht
      · rename_i z k hz hkk
        cases hb : (Nat.ble (n * k) 65536 && Nat.blt 0 k && Nat.beq z.cells.length k) with
        | false => rw [hb] at ht; cases ht
        | true =>
          rw [hb] at ht
          simp only [cond_true, Option.map_eq_some_iff] at ht
          obtain ⟨qs, hq, rfl⟩ := ht
          simp only [Bool.and_eq_true] at hb
          simp only [insV] at h
          split at h
          · rename_i xs hf
            cases h
            exact vok_wp (op_lit hi he hu hz hkk (Nat.le_of_ble_eq_true hb.1.1) (Nat.le_of_ble_eq_true hb.1.2) hq (Nat.eq_of_beq_eq_true hb.2) hf) (by rw [hexec hop]; rfl) hk
          · cases h
      · cases ht
    · cases ht
  | load t x =>
    simp only [hop, trIns] at ht
    split at ht
    · rename_i ag n y ha hn hy
      cases ht
      simp only [insV] at h
      split at h
      · rename_i cs hl
        obtain ⟨v, hv, rfl⟩ := pureOp_some h
        exact vok_wp (op_load hi ha hn (opd_rep he hy) hl hv) (by rw [hexec hop]; rfl) hk
      · cases h
    · cases ht
  | store t x v =>
    simp only [hop, trIns] at ht
    split at ht
    · rename_i n x' v' hn hx hv
      cases ht
      simp only [insV] at h
      split at h
      · rename_i hlen
        split at h
        · rename_i s' hs
          cases h
          exact uok_wp (op_store hi hn (opd_rep he hx) (opd_rep he hv) hlen hs) (by rw [hexec hop]; rfl) hk
        · cases h
      · cases h
    · cases ht
  | nilCheck x =>
    simp only [hop, trIns, Option.map_eq_some_iff] at ht
    obtain ⟨y, hy, rfl⟩ := ht
    have hr := opd_rep he hy
    simp only [insV] at h
    split at h
    · rename_i hg; cases h
      rw [hg] at hr
      refine val_wp hi hr ?_ hk
      rw [hexec hop]; simp only [execOp]
      generalize a.eval x = z at hr
      cases hr; simp only [Sem.run_pure]
    · rename_i hg; cases h
      rw [hg] at hr
      refine val_wp hi hr ?_ hk
      rw [hexec hop]; simp only [execOp]
      generalize a.eval x = z at hr
      cases hr; simp only [Sem.run_pure]
    · rename_i hg; cases h
      rw [hg] at hr
      refine val_wp hi hr ?_ hk
      rw [hexec hop]; simp only [execOp]
      generalize a.eval x = z at hr
      cases hr; simp only [Sem.run_pure]
    · rename_i hg; cases h
      rw [hg] at hr
      refine val_wp hi hr ?_ hk
      rw [hexec hop]; simp only [execOp]
      generalize a.eval x = z at hr
      cases hr; simp only [Sem.run_pure]
    · cases h
  | binOp op t x y b =>
    simp only [hop, trIns] at ht
    split at ht
    · rename_i p q hx hy
      split at ht
      · rcases trEq_some ht with rfl | ⟨k, hkk, rfl⟩
        · exact bin_wp hop hi he hx hy h hk
        · exact eq_wp hop hi he hx hy hkk rfl h hk
      · rcases trEq_some ht with rfl | ⟨k, hkk, rfl⟩
        · exact bin_wp hop hi he hx hy h hk
        · exact eq_wp hop hi he hx hy hkk rfl h hk
      · cases ht
        exact bin_wp hop hi he hx hy h hk
    · cases ht
  | unOp op t x =>
    simp only [hop, trIns, Option.map_eq_some_iff] at ht
    obtain ⟨y, hy, rfl⟩ := ht
    simp only [insV] at h
    obtain ⟨v, hv, rfl⟩ := pureOp_some h
    exact vok_wp (op_un hi (opd_rep he hy) hv) (by rw [hexec hop]; rfl) hk
  | convert s d x =>
    have ho : execOp a.eval o = (do pure (.value (← convert s d (a.eval x))) : Sem Next) := by rw [hexec hop]; rfl
    simp only [hop, trIns] at ht
    split at ht
    · rename_i k0 k y hs hd hy
      cases ht
      have hr := opd_rep he hy
      cases hg : y.get e <;> simp only [insV, hg, reduceCtorEq, Option.some.injEq] at h
      subst h
      rw [hg] at hr
      exact vok_wp (op_conv_int hi hs hd hr) ho hk
    · rename_i k0 k y hs hd hy
      cases ht
      have hr := opd_rep he hy
      cases hg : y.get e <;> simp only [insV, hg, reduceCtorEq, Option.some.injEq] at h
      obtain ⟨v, hv, rfl⟩ := pureOp_some h
      rw [hg] at hr
      exact vok_wp (op_conv_f2i hi hs hd hr hv) ho hk
    · rename_i y hs hd hy
      cases ht
      have hr := opd_rep he hy
      cases hg : y.get e <;> simp only [insV, hg, reduceCtorEq, Option.some.injEq] at h
      subst h
      rw [hg] at hr
      exact vok_wp (op_conv_same hi hs hd hr) ho hk
    · rename_i t y hs hd hy
      split at ht
      · rename_i n hn
        cases ht
        obtain ⟨hh, cs, hg, hat, hl, rfl⟩ := uns_ins h
        have hr := opd_rep he hy
        rw [hg] at hr
        obtain ⟨b, hx, hsh⟩ := ptr_shape hi hr hat
        rw [hx] at hr ho
        unfold szOf at hn
        cases hj : P.info? t with
        | none => rw [hj] at hn; cases hn
        | some j =>
          rw [hj] at hn
          simp only [Option.map_some, Option.some.injEq] at hn
          refine val_wp hi hr ?_ hk
          rw [ho]
          simp only [Sem.run_bind, Lib.run_to_unsafe w ⟨b, 0, none⟩ hs hd hj (by omega) hsh (by show 0 < cs.length; omega), Result.andThen_ok, Sem.run_pure]
      · cases ht
    · rename_i t y hs hd hy
      split at ht
      · rename_i n hn
        generalize hlb : liesAt P P.depth t ((n + 1) / P.cellsOf t) 0 t 1 = lb at ht
        cases lb with
        | false => cases ht
        | true =>
          cases ht
          obtain ⟨hh, cs, hg, hat, hl, rfl⟩ := uns_ins h
          have hr := opd_rep he hy
          rw [hg] at hr
          obtain ⟨b, hx, hsh⟩ := ptr_shape hi hr hat
          rw [hx] at hr ho
          unfold szOf at hn
          cases hj : P.info? t with
          | none => rw [hj] at hn; cases hn
          | some j =>
            refine val_wp hi hr ?_ hk
            rw [ho]
            simp only [Sem.run_bind, Lib.run_from_unsafe w ⟨b, 0, none⟩ hs hd hj hsh (by rw [hl]; exact hlb), Result.andThen_ok, Sem.run_pure]
      · cases ht
    · rename_i k0 y hs hd hy
      cases ht
      have hr := opd_rep he hy
      cases hg : y.get e <;> simp only [insV, hg, reduceCtorEq, Option.some.injEq] at h
      subst h
      rw [hg] at hr
      exact vok_wp (op_conv_rune hi hs hd hr) ho hk
    · rename_i el y hs hd hy
      split at ht
      · rename_i hel
        cases ht
        have hr := opd_rep he hy
        cases hg : y.get e <;> simp only [insV, hg, reduceCtorEq, Option.some.injEq] at h
        case sl ex xs =>
          rw [hg] at hr
          split at h
          · rename_i b hb
            cases h
            exact vok_wp (op_toStr_sl hi hs hel hd hr hb) ho hk
          · cases h
        case gs hh ver off len =>
          rw [hg] at hr
          split at h
          · rename_i v0 ag sz rows hat
            split at h
            · rename_i hc
              obtain ⟨h1, h2, h3⟩ := hc
              split at h
              · rename_i b hb
                cases h
                subst h2
                exact vok_wp (op_toStr_gs hi hs hel hd hr hat h1 h3 hb) ho hk
              · cases h
            · cases h
          · rename_i ag sz hat
            split at h
            · rename_i hl; subst hl
              cases h
              exact vok_wp (op_toStr_nil hi hs hel hd hr hat) ho hk
            · cases h
          · cases h
      · cases ht
    · rename_i el y hs hd hy
      split at ht
      · rename_i hel
        cases ht
        have hr := opd_rep he hy
        cases hg : y.get e <;> simp only [insV, hg, reduceCtorEq, Option.some.injEq] at h
        subst h
        rw [hg] at hr
        exact vok_wp (op_toBytes hi hs hd hel hr) ho hk
      · cases ht
    · cases ht
  | makeInterface t x =>
    simp only [hop, trIns] at ht
    split at ht
    · cases ht
    · cases ht
    · rename_i hn1 hn2
      simp only [Option.map_eq_some_iff] at ht
      obtain ⟨y, hy, rfl⟩ := ht
      simp only [insV, Option.some.injEq] at h; subst h
      refine val_wp hi (.iface _ _ _ (opd_rep he hy)) ?_ hk
      rw [hexec hop]
      simp only [execOp, Instr.makeInterface, Sem.run_bind]
      cases hu : P.underlying t with
      | none => exact absurd hu hn2
      | some d =>
        simp only [run_underlying hu, Result.andThen_ok]
        cases d <;> first | (exact absurd hu (hn1 _)) | simp only [Sem.run_pure, Result.andThen_ok]
  | makeFunc fn p q =>
    cases fn <;> simp only [hop, trIns] at ht <;> first | (cases ht; done) | skip
    rename_i f
    split at ht
    · rename_i p' q' hp hq
      cases ht
      simp only [insV, Option.some.injEq] at h; subst h
      refine val_wp hi (.fn _ _ _ _ _ (opds_rep he hp) (opds_rep he hq)) ?_ hk
      rw [hexec hop]
      have e1 : (p.map a.eval) = (p.toList.map a.eval).toArray := by apply Array.toList_inj.1; rw [Array.toList_map]
      have e2 : (q.map a.eval) = (q.toList.map a.eval).toArray := by apply Array.toList_inj.1; rw [Array.toList_map]
      simp only [execOp, Instr.makeFunc, Sem.run_bind, Sem.run_pure, Result.andThen_ok, e1, e2]
    · cases ht
  | slice t x lo hi' mx =>
    simp only [hop, trIns] at ht
    split at ht
    · rename_i x' lo' hi'' mx' hx hlo hhi hmx
      cases hb : (mx'.isSome && hi''.isNone) with
      | true => rw [hb] at ht; cases ht
      | false =>
        rw [hb] at ht
        simp only [cond_false] at ht
        have hno : mx'.isSome → hi''.isSome := by
          intro h1; cases hi'' with
          | some _ => rfl
          | none => rw [h1] at hb; cases hb
        split at ht
        · rename_i hu
          cases ht
          simp only [insV] at h
          cases hb : (x'.get e).isStr == true with
          | false => rw [hb] at h; cases h
          | true =>
            rw [hb] at h
            obtain ⟨v, hv, rfl⟩ := pureOp_some h
            refine vok_wp (op_slc hi he hlo hhi hmx hno (.inl ⟨hu, ?_⟩) (opd_rep he hx) hv) (by rw [hexec hop]; rfl) hk
            cases hg : x'.get e <;> rw [hg] at hb <;> first | exact ⟨_, rfl⟩ | cases hb
        · rename_i el hu
          simp only [Option.map_eq_some_iff] at ht
          obtain ⟨n, hn, rfl⟩ := ht
          simp only [insV] at h
          cases hb : (x'.get e).isStr == false with
          | false => rw [hb] at h; cases h
          | true =>
            rw [hb] at h
            obtain ⟨v, hv, rfl⟩ := pureOp_some h
            refine vok_wp (op_slc hi he hlo hhi hmx hno (.inr ⟨⟨el, hu, hn⟩, fun b hb2 => ?_⟩) (opd_rep he hx) hv) (by rw [hexec hop]; rfl) hk
            rw [hb2] at hb; cases hb
        · cases ht
    · cases ht
  | fieldAddr t x f =>
    simp only [hop, trIns] at ht
    split at ht
    · rename_i fs y hu hy
      split at ht
      · rename_i fd hfd
        split at ht
        · rename_i n hn
          cases ht
          simp only [insV] at h
          obtain ⟨v, hv, rfl⟩ := pureOp_some h
          exact vok_wp (op_faddr hi hu hfd hn (opd_rep he hy) hv) (by rw [hexec hop]; rfl) hk
        · cases ht
      · cases ht
    · cases ht
  | field t x f =>
    simp only [hop, trIns] at ht
    split at ht
    · rename_i fs y hu hy
      split at ht
      · rename_i fd hfd
        split at ht
        · rename_i ag n ha hn
          cases ht
          simp only [insV] at h
          have hr := opd_rep he hy
          split at h
          · rename_i cs hg
            rw [hg] at hr
            split at h
            · rename_i r' htk
              obtain ⟨v, hv, rfl⟩ := pureOp_some h
              exact vok_wp (op_field hi hu hfd ha hn hr htk hv) (by rw [hexec hop]; rfl) hk
            · cases h
          · cases h
        · cases ht
      · cases ht
    · cases ht
  | indexAddr t x j =>
    simp only [hop, trIns] at ht
    split at ht
    · rename_i el y i' hu hy hj
      simp only [Option.map_eq_some_iff] at ht
      obtain ⟨n, hn, rfl⟩ := ht
      have hry := opd_rep he hy
      have hrj := opd_rep he hj
      simp only [insV] at h
      split at h
      · rename_i ex xs k jj hg1 hg2
        rw [hg1] at hry; rw [hg2] at hrj
        split at h
        · rename_i m hm
          split at h
          · rename_i v hv
            split at h
            · rename_i hl
              cases h
              exact vok_wp (op_iaddr_sl hi hu hn hry hrj hm hv hl) (by rw [hexec hop]; rfl) hk
            · cases h
          · cases h
        · cases h
      · rename_i hh ver off len k jj hg1 hg2
        rw [hg1] at hry; rw [hg2] at hrj
        split at h
        · rename_i v0 ag sz rows hat
          split at h
          · rename_i hc
            obtain ⟨hc1, rfl⟩ := hc
            split at h
            · rename_i m hm
              cases h
              exact vok_wp (op_iaddr_gs hi hu hn hry hrj hm hat hc1) (by rw [hexec hop]; rfl) hk
            · cases h
          · cases h
        · cases h
      · cases h
    · rename_i k el y i' hu hy hj
      simp only [Option.map_eq_some_iff] at ht
      obtain ⟨n, hn, rfl⟩ := ht
      have hry := opd_rep he hy
      have hrj := opd_rep he hj
      simp only [insV] at h
      split at h
      · rename_i kk jj hg2
        rw [hg2] at hrj
        split at h
        · rename_i m hm
          obtain ⟨v, hv, rfl⟩ := pureOp_some h
          exact vok_wp (op_aaddr hi hu hn hry hrj hm hv) (by rw [hexec hop]; rfl) hk
        · cases h
      · cases h
    · cases ht
  | index t x j =>
    simp only [hop, trIns] at ht
    split at ht
    · rename_i y i' hu hy hj
      cases ht
      have hry := opd_rep he hy
      have hrj := opd_rep he hj
      simp only [insV] at h
      split at h
      · rename_i b k jj hg1 hg2
        rw [hg1] at hry; rw [hg2] at hrj
        split at h
        · rename_i ch hch
          cases h
          exact vok_wp (op_index hi hu hry hrj hch) (by rw [hexec hop]; rfl) hk
        · cases h
      · cases h
    · rename_i k el y i' hu hy hj
      split at ht
      · rename_i ag n ha hn
        cases ht
        have hry := opd_rep he hy
        have hrj := opd_rep he hj
        simp only [insV] at h
        split at h
        · rename_i cs kk jj hg1 hg2
          rw [hg1] at hry; rw [hg2] at hrj
          split at h
          · rename_i m hm
            split at h
            · rename_i r' htk
              obtain ⟨v, hv, rfl⟩ := pureOp_some h
              exact vok_wp (op_aindex hi hu ha hn hry hrj hm htk hv) (by rw [hexec hop]; rfl) hk
            · cases h
          · cases h
        · cases h
      · cases ht
    · cases ht
  | typeAssert x xt t ok =>
    cases ok <;> simp only [hop, trIns] at ht <;> first | (cases ht; done) | skip
    split at ht
    · cases ht
    · rename_i d z y hn hud hz hy
      cases ht
      simp only [insV] at h
      have hr := opd_rep he hy
      have hud' : ∃ d, P.underlying t = some d ∧ ∀ ms, d ≠ .interface ms := ⟨d, hud, fun ms hms => hn ms hms⟩
      split at h
      · rename_i hg; cases h
        rw [hg] at hr
        exact vok_wp (op_tassert hi hz hud' hr rfl) (by rw [hexec hop]; rfl) hk
      · rename_i hg; cases h
        rw [hg] at hr
        exact vok_wp (op_tassert hi hz hud' hr rfl) (by rw [hexec hop]; rfl) hk
      · cases h
    · cases ht
  | extract x n =>
    simp only [hop, trIns, Option.map_eq_some_iff] at ht
    obtain ⟨y, hy, rfl⟩ := ht
    have hr := opd_rep he hy
    simp only [insV] at h
    split at h
    · rename_i vs hg
      rw [hg] at hr
      obtain ⟨v, hv, rfl⟩ := pureOp_some h
      exact vok_wp (op_extract hi hr hv) (by rw [hexec hop]; rfl) hk
    · cases h
  | call cl =>
    simp only [hop, trIns] at ht
    exact call_ins hK hop ht hi he h hk
  | panic x =>
    simp only [hop, trIns, Option.map_eq_some_iff] at ht
    obtain ⟨y, hy, rfl⟩ := ht
    have hr := opd_rep he hy
    simp only [insV] at h
    split at h
    · rename_i t v hg
      cases h
      rw [hg] at hr
      unfold Oper.wp
      rw [hexec hop]
      generalize hxv : a.eval x = xv at hr
      cases hr with
      | iface _ _ z hz =>
        simp only [execOp, Instr.panic, hxv, goPanic, Sem.run_bind]
        exact hk _ w M R (Mem.le_refl M) (Hm.le_refl R) hi (.iface _ _ _ hz)
    · cases h
  | _ => simp [hop, trIns] at ht

end
end Ab

/-  Rows of operations, in the order given. -/
namespace Ab
open Go
variable [Globs]

/-- The act's frame: its size, its deferred calls, and what is not written. -/
def Same (pr : List Nat) (a a' : Act) : Prop := a'.tmps.size = a.tmps.size ∧ a'.defers = a.defers ∧ ∀ i ∈ pr, a'.tmps.getD i Go.undef = a.tmps.getD i Go.undef
theorem Same.refl {pr : List Nat} (a : Act) : Same pr a a := ⟨rfl, rfl, fun _ _ => rfl⟩
theorem Same.trans {pr : List Nat} {a b c : Act} (h : Same pr a b) (g : Same pr b c) : Same pr a c := ⟨g.1.trans h.1, g.2.1.trans h.2.1, fun i hi => (g.2.2 i hi).trans (h.2.2 i hi)⟩
theorem Same.put {pr : List Nat} (a : Act) (d : Option Tmp) (x : Value) (hd : ∀ k, d = some k → k ∉ pr) : Same pr a (a.put d x) := by
  cases d with
  | none => exact Same.refl a
  | some k =>
    refine ⟨by simp [Act.put], rfl, fun i hi => ?_⟩
    have hne : i ≠ k := fun e => hd k rfl (e ▸ hi)
    simp only [Act.put]
    rw [Array.getD_eq_getD_getElem?, Array.getElem?_setIfInBounds_ne (Ne.symm hne), ← Array.getD_eq_getD_getElem?]

def Ex.out : Ex → Exit
  | .nxt => .normal
  | .exit id => .exit id
  | .ret => .ret
  | .pan _ => .normal

def Post (pr : List Nat) (c : Ctx) (M : Mem) (R : Hm) (a0 : Act) (Q : Exit → Act → World → Prop) : Ex × Env × St → Prop
  | (.pan v, _, s) => ∀ x a' w' M' R', M.le M' → R.le R' → Inv c M' R' s w' → Rep M' R' v x → Same pr a0 a' → Q (.panic [{ v := x, recovered := false }]) a' w'
  | (x, e, s) => ∀ a' w' M' R', M.le M' → R.le R' → Inv c M' R' s w' → RepEnv M' R' e a'.tmps → Same pr a0 a' → Q x.out a' w'

theorem Post.mono {pr c M R M' R' a a' Q r} (h : Post pr c M R a Q r) (hM : M.le M') (hR : R.le R') (hs : Same pr a a') : Post pr c M' R' a' Q r := by
  obtain ⟨x, e, s⟩ := r
  cases x
  case pan v => exact fun x a1 w1 M1 R1 h1 h2 h3 h4 h5 => h x a1 w1 M1 R1 (Mem.le_trans hM h1) (Hm.le_trans hR h2) h3 h4 (hs.trans h5)
  all_goals exact fun a1 w1 M1 R1 h1 h2 h3 h4 h5 => h a1 w1 M1 R1 (Mem.le_trans hM h1) (Hm.le_trans hR h2) h3 h4 (hs.trans h5)

section
variable {P : Program} {c : Ctx} {M : Mem} {R : Hm} {S : St} {w : World} {a : Act} {o : Oper} {next : Act → World → Prop} {Q : Exit → Act → World → Prop}

theorem undef_not_bool (b : Bool) : (Go.undef : Value) ≠ .bool b := by intro h; cases h

theorem RepEnv.put {e : Env} {d : Option Nat} {v : V} {x : Value} (he : RepEnv M R e a.tmps) (hv : Rep M R v x) (hd : ∀ k, d = some k → k < a.tmps.size) : RepEnv M R (e.put d v) (a.put d x).tmps := by
  cases d with
  | none => exact he
  | some k =>
    intro i
    have hk := hd k rfl
    simp only [Env.put, Env.get, Act.put]
    by_cases h : i = k
    · subst h
      simp only [beq_self_eq_true, cond_true]
      rw [Array.getD_eq_getD_getElem?, Array.getElem?_setIfInBounds_self_of_lt hk]
      exact hv
    · have : (i == k) = false := by simp [h]
      simp only [this, cond_false]
      rw [Array.getD_eq_getD_getElem?, Array.getElem?_setIfInBounds_ne (Ne.symm h), ← Array.getD_eq_getD_getElem?]
      exact he i

theorem wanted_ok {os : Array Oper} {gd : Option (Nat × Bool)} {e : Env} {t : Bool} (hg : trGuard os o.guard = some gd) (he : RepEnv M R e a.tmps) (hw : wanted e gd = some t) : Region.wanted o (yielded os a.tmps) = t := by
  unfold Region.wanted
  cases hgu : o.guard with
  | none =>
    rw [hgu] at hg
    simp only [trGuard, Option.some.injEq] at hg; subst hg
    simp only [wanted, Option.some.injEq] at hw; subst hw; rfl
  | some p =>
    obtain ⟨j, wt⟩ := p
    rw [hgu] at hg
    simp only [trGuard] at hg
    split at hg
    · rename_i oj hoj
      split at hg
      · rename_i d hd
        cases hg
        simp only [wanted] at hw
        have hr := he d
        split at hw
        · rename_i b hb
          cases hw
          rw [hb] at hr
          have hb2 := hr.bool_inv
          have : a.tmps[d]? = some (.bool b) := by
            rw [Array.getD_eq_getD_getElem?] at hb2
            cases h : a.tmps[d]? with
            | none => rw [h] at hb2; exact absurd hb2 (undef_not_bool b)
            | some y => rw [h] at hb2; simpa using hb2
          simp only [yielded, hoj, Option.bind_some, hd, this]
          rfl
        · rename_i hb
          cases hw
          rw [hb] at hr
          have hy : yielded os a.tmps j = none := by
            simp only [yielded, hoj, Option.bind_some, hd]
            cases h : a.tmps[d]? with
            | none => rfl
            | some y =>
              rw [Array.getD_eq_getD_getElem?, h] at hr
              simp only [Option.getD_some] at hr
              cases hr; rfl
          simp only [hy]; rfl
        · cases hw
      · cases hg
    · cases hg

theorem oper_wp {K : Calls} (hK : Sound P K) {g : Cfg} {os : Array Oper} {io : IOp} (ht : trOper P g os o = some io) {e : Env} (hi : Inv c M R S w) (he : RepEnv M R e a.tmps) {r : OR} (h : insV K e S io.ins = some r)
    (hk : KontR c M R a o next Q r) : o.wp P a w next Q := by
  unfold trOper at ht
  cases hb : dstOk g.nt g.prot o.dst with
  | false => rw [hb] at ht; cases ht
  | true =>
    rw [hb] at ht
    simp only [cond_true] at ht
    split at ht
    · rename_i gd i hgd hi'
      cases ht
      cases hn : trNil P o.type o.op with
      | none => rw [hn] at hi'; exact ins_wp hK hi' hi he h hk
      | some i2 =>
        rw [hn] at hi'
        cases hi'
        unfold trNil at hn
        split at hn
        · rename_i hop
          split at hn
          · split at hn
            · cases hn
              simp only [insV, Option.some.injEq] at h; subst h
              exact vok_wp (op_nilS hi _ _) (by rw [hexec hop]; simp [execOp, Act.eval]) hk
            · cases hn
          · cases hn
        · rename_i hop
          split at hn
          · split at hn
            · cases hn
              simp only [insV, Option.some.injEq] at h; subst h
              exact vok_wp (op_nilS hi _ _) (by rw [hexec hop]; simp [execOp, Act.eval]) hk
            · cases hn
          · cases hn
        · cases hn
    · cases ht

theorem trOper_parts {g : Cfg} {os : Array Oper} {io : IOp} (ht : trOper P g os o = some io) : io.dst = o.dst ∧ trGuard os o.guard = some io.g ∧ ∀ k, o.dst = some k → k < g.nt ∧ k ∉ g.prot := by
  unfold trOper at ht
  cases hb : dstOk g.nt g.prot o.dst with
  | false => rw [hb] at ht; cases ht
  | true =>
    rw [hb] at ht
    simp only [cond_true] at ht
    split at ht
    · rename_i gd i hgd hi'
      cases ht
      refine ⟨rfl, hgd, fun k hk => ?_⟩
      rw [hk] at hb
      simp only [dstOk, Bool.and_eq_true, Bool.not_eq_true', List.contains_eq_mem, decide_eq_false_iff_not] at hb
      exact ⟨Nat.le_of_ble_eq_true hb.1, hb.2⟩
    · cases ht

theorem trOpers_get {g : Cfg} {os : Array Oper} : ∀ {l : List Oper} {ios : List IOp}, trOpers P g os l = some ios → ∀ (i : Nat) (o : Oper), l[i]? = some o → ∃ io, ios[i]? = some io ∧ trOper P g os o = some io
  | [], _, _, i, o, ho => by simp at ho
  | x :: l, ios, h, i, o, ho => by
    simp only [trOpers] at h
    split at h
    · rename_i io hio
      simp only [Option.map_eq_some_iff] at h
      obtain ⟨r, hr, rfl⟩ := h
      cases i with
      | zero => simp at ho; subst ho; exact ⟨io, by simp, hio⟩
      | succ i => simp at ho; obtain ⟨io2, h1, h2⟩ := trOpers_get hr i o ho; exact ⟨io2, by simpa using h1, h2⟩
    · cases h


theorem wpOps_ok' {K : Calls} (hK : Sound P K) {g : Cfg} {os : Array Oper} {ios : List IOp} : ∀ (π : List Nat), (∀ i ∈ π, ∃ o, os[i]? = some o ∧ trOper P g os o = some (ios.getD i default)) → ∀ {a : Act} {w : World} {M : Mem} {R : Hm} {e : Env} {S : St} {r : Ex × Env × St},
    RepEnv M R e a.tmps → Inv c M R S w → g.nt ≤ a.tmps.size → opsAt K ios π e S = some r → Post g.prot c M R a Q r → wpOps P os Q π a w
  | [], _, a, w, M, R, e, S, r, he, hi, hn, h, hp => by
    simp only [opsAt, List.map_nil, ops, Option.some.injEq] at h; subst h
    exact hp a w M R (Mem.le_refl M) (Hm.le_refl R) hi he (Same.refl a)
  | i :: π, hπ, a, w, M, R, e, S, r, he, hi, hn, h, hp => by
    obtain ⟨o, ho, htr⟩ := hπ i (by simp)
    generalize hio : ios.getD i default = io at htr
    obtain ⟨hd, hg, hdn⟩ := trOper_parts htr
    simp only [wpOps, ho]
    simp only [opsAt, List.map_cons, ops] at h
    rw [hio] at h
    split at h
    · rename_i hw
      rw [wanted_ok hg he hw]
      simp only [if_true]
      refine .inl ?_
      split at h
      · rename_i v s' hv
        refine oper_wp hK htr hi he hv ?_
        intro x w' M' R' hM hR hi' hx
        refine wpOps_ok' hK π (fun j hj => hπ j (by simp [hj])) (e := e.put io.dst v) ?_ hi' (by rw [(Same.put (pr := []) a _ x (fun _ _ => by simp)).1]; exact hn) h (hp.mono hM hR (Same.put a _ x fun k hk => (hdn k hk).2))
        rw [hd]
        exact RepEnv.put (he.mono hM hR) hx fun k hk => Nat.lt_of_lt_of_le (hdn k hk).1 hn
      · rename_i v s' hv
        cases h
        refine oper_wp hK htr hi he hv ?_
        intro x w' M' R' hM hR hi' hx
        exact hp x a w' M' R' hM hR hi' hx (Same.refl a)
      · cases h
    · rename_i hw
      rw [wanted_ok hg he hw]
      simp only [Bool.false_eq_true, if_false]
      refine wpOps_ok' hK π (fun j hj => hπ j (by simp [hj])) (e := e.put io.dst .undef) ?_ hi (by rw [(Same.put (pr := []) a _ _ (fun _ _ => by simp)).1]; exact hn) h (hp.mono (Mem.le_refl M) (Hm.le_refl R) (Same.put a _ _ fun k hk => (hdn k hk).2))
      rw [hd]
      exact RepEnv.put he .undef fun k hk => Nat.lt_of_lt_of_le (hdn k hk).1 hn
    · cases h

theorem wpOps_ok {K : Calls} (hK : Sound P K) {g : Cfg} {os : Array Oper} {ios : List IOp} (ht : trOpers P g os os.toList = some ios) (π : List Nat) (hπ : ∀ i ∈ π, i < os.size) {a : Act} {w : World} {M : Mem} {R : Hm} {e : Env} {S : St} {r : Ex × Env × St}
    (he : RepEnv M R e a.tmps) (hi : Inv c M R S w) (hn : g.nt ≤ a.tmps.size) (h : opsAt K ios π e S = some r) (hp : Post g.prot c M R a Q r) : wpOps P os Q π a w := by
  refine wpOps_ok' hK π (fun i hi' => ?_) he hi hn h hp
  have hlt := hπ i hi'
  obtain ⟨io, hio, htr⟩ := trOpers_get ht i os[i] (by simp)
  exact ⟨os[i], by simp [hlt], by rw [htr]; simp [List.getD, hio]⟩

end
end Ab

/-  Code: what the abstract machine's run says, the model's code does. -/
namespace Ab
open Go
variable [Globs]

theorem trOpers_len {P : Program} {g : Cfg} {os : Array Oper} : ∀ {l : List Oper} {ios : List IOp}, trOpers P g os l = some ios → ios.length = l.length
  | [], ios, h => by simp only [trOpers, Option.some.injEq] at h; subst h; rfl
  | x :: l, ios, h => by
    simp only [trOpers] at h
    split at h
    · simp only [Option.map_eq_some_iff] at h
      obtain ⟨r, hr, rfl⟩ := h
      simp [trOpers_len hr]
    · cases h

theorem range_map {α : Type} (l : List α) (d : α) : (List.range l.length).map (fun i => l.getD i d) = l := by
  apply List.ext_getElem
  · simp
  · intro i h1 h2
    simp [h2]

theorem lin_lt {os : Array Oper} : ∀ {n : Nat} {l : Array Bool} {π : List Nat}, Lin os n l π → ∀ i ∈ π, i < os.size
  | 0, l, π, h, i, hi => by rw [show π = [] from h] at hi; cases hi
  | n + 1, l, π, h, i, hi => by
    rcases h with ⟨_, rfl⟩ | ⟨k, π', rfl, hk, h⟩
    · cases hi
    · rcases List.mem_cons.1 hi with rfl | hi
      · exact (mem_ready.1 hk).1
      · exact lin_lt h i hi

theorem schedule_lt (os : Array Oper) (t : Nat) : ∀ i ∈ Region.schedule true os t, i < os.size := by
  simp only [Region.schedule, Bool.true_or, if_true]
  exact lin_lt (go_lin os.size t _)

theorem ops_out {K : Calls} : ∀ {os : List IOp} {e : Env} {s : St} {r}, ops K os e s = some r → r.1 = .nxt ∨ ∃ v, r.1 = .pan v
  | [], e, s, r, h => by simp only [ops, Option.some.injEq] at h; subst h; exact .inl rfl
  | o :: os, e, s, r, h => by
    rw [ops_one] at h
    split at h
    · exact ops_out h
    · cases h; exact .inr ⟨_, rfl⟩
    · cases h

theorem ops_other {K : Calls} : ∀ {os : List IOp} {e e' : Env} {s s' : St}, ops K os e s = some (.nxt, e', s') → ∀ t, (∀ o ∈ os, o.dst ≠ some t) → e'.get t = e.get t
  | [], e, e', s, s', h, t, ht => by simp only [ops, Option.some.injEq, Prod.mk.injEq] at h; rw [h.2.1]
  | o :: os, e, e', s, s', h, t, ht => by
    rw [ops_one] at h
    split at h
    · rw [ops_other h t (fun o ho => ht o (by simp [ho])), get_put, if_neg (ht o (by simp))]
    · simp at h
    · cases h

section
variable {P : Program} {c : Ctx} {M : Mem} {R : Hm} {S : St} {w : World} {a : Act} {Q : Exit → Act → World → Prop}

theorem Post.eqv {pr : List Nat} {r r' : Ex × Env × St} (h : Post pr c M R a Q r) (he : ResEq r r') (ho : r.1 = .nxt ∨ ∃ v, r.1 = .pan v) : Post pr c M R a Q r' := by
  obtain ⟨x, e, s⟩ := r
  obtain ⟨x', e', s'⟩ := r'
  obtain ⟨rfl, rfl, h3⟩ := he
  rcases ho with rfl | ⟨v, rfl⟩
  · intro a1 w1 M1 R1 h1 h2 h4 h5 h6
    refine h a1 w1 M1 R1 h1 h2 h4 (fun i => ?_) h6
    have := h5 i
    rw [← h3 rfl i] at this; exact this
  · exact h

theorem sames_map {ds : List Nat} {e e' : Env} (h : ds.map e.get = ds.map e'.get) : ∀ t ∈ ds, e.get t = e'.get t := by
  intro t ht
  induction ds with
  | nil => cases ht
  | cons d ds ih =>
    simp only [List.map_cons, List.cons.injEq] at h
    rcases List.mem_cons.1 ht with rfl | ht
    · exact h.1
    · exact ih h.2 ht

theorem agrees_eq {K : Calls} {ds : List Nat} {l l' : List IOp} {e : Env} {s : St} {r : Ex × Env × St} (hr : ops K l e s = some r) (hds : ∀ o ∈ l, ∀ t, o.dst = some t → t ∈ ds) (hds' : ∀ o ∈ l', ∀ t, o.dst = some t → t ∈ ds)
    (h : agrees ds r (ops K l' e s) = true) : ∃ r', ops K l' e s = some r' ∧ ResEq r r' := by
  obtain ⟨y, hy⟩ := agrees_some h
  refine ⟨y, hy, ?_⟩
  rw [hy] at h
  obtain ⟨x, e1, s1⟩ := r
  obtain ⟨x', e2, s2⟩ := y
  cases x <;> cases x' <;> simp only [agrees, Bool.false_eq_true, Bool.and_eq_true] at h
  · refine ⟨rfl, St.same_eq h.2, fun _ t => ?_⟩
    by_cases ht : t ∈ ds
    · exact sames_map (V.sames_eq h.1) t ht
    · rw [ops_other hr t (fun o ho hd => ht (hds o ho t hd)), ops_other hy t (fun o ho hd => ht (hds' o ho t hd))]
  · exact ⟨by rw [V.same_eq h.1], St.same_eq h.2, fun hx => by cases hx⟩

theorem agreeAll_mem {ds : List Nat} {r : Ex × Env × St} : ∀ {l : List (Option (Ex × Env × St))}, agreeAll ds r l = true → ∀ x ∈ l, agrees ds r x = true
  | [], _, x, hx => by cases hx
  | y :: l, h, x, hx => by
    simp only [agreeAll, Bool.and_eq_true] at h
    rcases List.mem_cons.1 hx with rfl | hx
    · exact h.1
    · exact agreeAll_mem h.2 x hx

theorem dst_mem {r : List IOp} {σ : List Nat} : ∀ o ∈ σ.map (fun i => r.getD i default), ∀ t, o.dst = some t → t ∈ r.filterMap (·.dst) := by
  intro o ho t ht
  obtain ⟨i, _, rfl⟩ := List.mem_map.1 ho
  cases hi : r[i]? with
  | none =>
    simp only [List.getD, hi, Option.getD_none] at ht
    cases ht
  | some o =>
    simp only [List.getD, hi, Option.getD_some] at ht
    exact List.mem_filterMap.2 ⟨o, List.mem_of_getElem? hi, ht⟩

theorem draw_ok {K : Calls} (hK : Sound P K) {g : Cfg} (hm : P.follows .mixedOrders = true) {id : Nat} {os : Array Oper} {ios : List IOp} (ht : trOpers P g os os.toList = some ios)
    {e : Env} {r : Ex × Env × St} (he : RepEnv M R e a.tmps) (hi : Inv c M R S w) (hn : g.nt ≤ a.tmps.size) (hp : Post g.prot c M R a Q r)
    (h : ∀ σ ∈ orders os ios, ∃ r', opsAt K ios σ e S = some r' ∧ ResEq r r') (ho : r.1 = .nxt ∨ ∃ v, r.1 = .pan v) : (Code.region id os true).wp P Q a w := by
  refine wp_region_draw fun t => ?_
  rw [hm]
  obtain ⟨σ, hσ, hE⟩ := orders_ok (os := os) (ios := ios) t
  obtain ⟨r1, h1, h2⟩ := h σ hσ
  obtain ⟨r2, h3, h4⟩ := hE K e S r1 h1
  exact wpOps_ok hK ht _ (schedule_lt os t) he (hi.world rfl rfl rfl (Nat.le_refl _) fun _ _ => rfl) hn h3 (hp.eqv (h2.trans h4) ho)

theorem mask_get (e : Env) : ∀ (live : List Nat) (i : Nat), (e.mask live).get i = e.get i ∨ (e.mask live).get i = .top
  | [], i => .inr rfl
  | j :: live, i => by
    simp only [Env.mask, List.map_cons, Env.get]
    by_cases h : i = j
    · subst h; simp
    · have : (i == j) = false := by simp [h]
      rw [this, cond_false]
      exact mask_get e live i

theorem RepEnv.mask {e : Env} {tmps : Array Value} (h : RepEnv M R e tmps) (live : List Nat) : RepEnv M R (e.mask live) tmps := fun i => by
  rcases mask_get e live i with h1 | h1
  · rw [h1]; exact h i
  · rw [h1]; exact .top _

/-- Where a loop's round begins again. -/
def LoopAt (P : Program) (b : Code) (Q : Exit → Act → World → Prop) (a : Act) (w : World) : Prop :=
  ∀ (fr : Frame) (k : List Item) (cs : List Frame), ∃ e a' w', Q e a' w' ∧ Arrives P (lone (fr.at a (.inLoop b :: k)) cs w) fr k cs e a' w'

theorem round {b : Code} {fr : Frame} {k : List Item} {cs : List Frame} (h : b.wp P (Exit.then (LoopAt P b Q) Q) a w) :
    ∃ e a' w', Q e a' w' ∧ Arrives P (lone (fr.at a (.code b :: .inLoop b :: k)) cs w) fr k cs e a' w' := by
  obtain ⟨e, a₁, w₁, hq, harr⟩ := h fr (.inLoop b :: k) cs
  cases e with
  | normal =>
    obtain ⟨e₂, a₂, w₂, hq₂, harr₂⟩ := hq fr k cs
    exact ⟨e₂, a₂, w₂, hq₂, .of_steps harr harr₂⟩
  | exit id => exact ⟨_, a₁, w₁, hq, .pass (x := .inLoop b) rfl (fun _ _ => .inl (by simp)) harr⟩
  | goto l => exact ⟨_, a₁, w₁, hq, .pass (x := .inLoop b) rfl (fun _ _ => .inl (by simp)) harr⟩
  | ret => exact ⟨_, a₁, w₁, hq, .pass (x := .inLoop b) rfl (fun _ _ => .inl (by simp)) harr⟩
  | panic ch => exact ⟨_, a₁, w₁, hq, .pass (x := .inLoop b) rfl (fun _ _ => .inl (by simp)) harr⟩
  | outgrown => exact ⟨_, a₁, w₁, hq, .pass (x := .inLoop b) rfl (fun _ _ => .inl (by simp)) harr⟩

theorem loopAt_of {b : Code} (h : b.wp P (Exit.then (LoopAt P b Q) Q) a w) : LoopAt P b Q a w := by
  intro fr k cs
  obtain ⟨e, a', w', hq, harr⟩ := round (fr := fr) (k := k) (cs := cs) h
  exact ⟨e, a', w', hq, .of_steps (.one step_inLoop) harr⟩

theorem loop_of_round {b : Code} (h : b.wp P (Exit.then (LoopAt P b Q) Q) a w) : (Code.loop b).wp P Q a w := by
  intro fr k cs
  obtain ⟨e, a', w', hq, harr⟩ := round (fr := fr) (k := k) (cs := cs) h
  exact ⟨e, a', w', hq, .of_steps (.one step_loop) harr⟩

/-- What loops do. -/
def LSound (P : Program) (L : Loops) : Prop :=
  ∀ (g : Cfg) (b : Code) (lv lv' : List (List Nat)) (bc : C), trC P g b lv = some (bc, lv') → ∀ (live : List Nat) (c : Ctx) (M : Mem) (R : Hm) (S : St) (w : World) (a : Act) (e : Env) (r : Ex × Env × St) (Q : Exit → Act → World → Prop),
    RepEnv M R e a.tmps → Inv c M R S w → g.nt ≤ a.tmps.size → L live bc e S = some r → Post g.prot c M R a Q r → LoopAt P b Q a w ∧ (Code.loop b).wp P Q a w

end

theorem code_ok {P : Program} {K : Calls} {L : Loops} (hK : Sound P K) (hL : LSound P L) (hm : P.follows .mixedOrders = true) {g : Cfg} : ∀ (x : Code) (lv lv' : List (List Nat)) (y : C), trC P g x lv = some (y, lv') →
    ∀ {c : Ctx} {M : Mem} {R : Hm} {S : St} {w : World} {a : Act} {Q : Exit → Act → World → Prop} {e : Env} {r : Ex × Env × St},
    RepEnv M R e a.tmps → Inv c M R S w → g.nt ≤ a.tmps.size → ev K L y e S = some r → Post g.prot c M R a Q r → x.wp P Q a w := by
  intro x
  induction x with
  | skip =>
    intro lv lv' y ht c M R S w a Q e r he hi hn h hp
    simp only [trC, Option.some.injEq, Prod.mk.injEq] at ht
    obtain ⟨rfl, rfl⟩ := ht
    simp only [ev, Option.some.injEq] at h; subst h
    exact wp_skip (hp a w M R (Mem.le_refl M) (Hm.le_refl R) hi he (Same.refl a))
  | region id os d =>
    intro lv lv' y ht c M R S w a Q e r he hi hn h hp
    cases d with
    | false =>
      simp only [trC, Option.map_eq_some_iff] at ht
      obtain ⟨ios, hios, ht⟩ := ht
      simp only [Prod.mk.injEq] at ht
      obtain ⟨rfl, rfl⟩ := ht
      simp only [ev] at h
      refine wp_region (wpOps_ok hK hios _ (fun i hi' => by simpa using hi') he hi hn ?_ hp)
      have hl : ios.length = os.size := by have := trOpers_len hios; simpa using this
      unfold opsAt
      rw [← hl, range_map]; exact h
    | true =>
      simp only [trC] at ht
      split at ht
      · rename_i ios hios
        split at ht
        · cases ht
        · rename_i σ hσ
          simp only [Option.some.injEq, Prod.mk.injEq] at ht
          obtain ⟨rfl, rfl⟩ := ht
          simp only [ev] at h
          refine draw_ok hK hm hios he hi hn hp (fun σ' h' => ?_) (ops_out h)
          rw [hσ] at h'
          simp only [List.mem_cons, List.not_mem_nil, or_false] at h'
          subst h'
          exact ⟨r, h, ResEq.refl r⟩
        · rename_i σ rest hne hσ
          simp only [Option.some.injEq, Prod.mk.injEq] at ht
          obtain ⟨rfl, rfl⟩ := ht
          simp only [ev] at h
          cases h1 : ops K (σ.map fun i => ios.getD i default) e S with
          | none => rw [h1] at h; cases h
          | some r1 =>
            rw [h1] at h
            simp only [drawn] at h
            generalize hall : agreeAll _ _ _ = ba at h
            cases ba with
            | false => cases h
            | true =>
              simp only [cond_true, Option.some.injEq] at h
              subst h
              refine draw_ok hK hm hios he hi hn hp (fun σ' h' => ?_) (ops_out h1)
              rw [hσ] at h'
              rcases List.mem_cons.1 h' with rfl | h'
              · exact ⟨_, h1, ResEq.refl _⟩
              · have := agreeAll_mem hall (ops K (σ'.map fun i => ios.getD i default) e S) (by
                  rw [List.map_map]
                  exact List.mem_map.2 ⟨σ', h', rfl⟩)
                exact agrees_eq h1 (dst_mem) (dst_mem) this
      · cases ht
  | seq x1 x2 ih1 ih2 =>
    intro lv lv' y ht c M R S w a Q e r he hi hn h hp
    simp only [trC] at ht
    split at ht
    · rename_i y1 lv1 h1
      simp only [Option.map_eq_some_iff] at ht
      obtain ⟨⟨y2, lv2⟩, h2, ht⟩ := ht
      simp only [Prod.mk.injEq] at ht
      obtain ⟨rfl, rfl⟩ := ht
      simp only [ev] at h
      refine wp_seq ?_
      cases hx : ev K L y1 e S with
      | none => rw [hx] at h; cases h
      | some r1 =>
        obtain ⟨x, e1, s1⟩ := r1
        refine ih1 _ _ _ h1 he hi hn hx ?_
        rw [hx] at h
        cases x with
        | nxt =>
          intro a1 w1 M1 R1 g1 g2 g3 g4 g5
          exact ih2 _ _ _ h2 g4 g3 (by rw [g5.1]; exact hn) h (hp.mono g1 g2 g5)
        | exit id => simp only [Option.some.injEq] at h; subst h; exact hp
        | ret => simp only [Option.some.injEq] at h; subst h; exact hp
        | pan v => simp only [Option.some.injEq] at h; subst h; exact hp
    · cases ht
  | cond o x1 x2 ih1 ih2 =>
    intro lv lv' y ht c M R S w a Q e r he hi hn h hp
    simp only [trC] at ht
    split at ht
    · rename_i o' ho
      split at ht
      · rename_i y1 lv1 h1
        simp only [Option.map_eq_some_iff] at ht
        obtain ⟨⟨y2, lv2⟩, h2, ht⟩ := ht
        simp only [Prod.mk.injEq] at ht
        obtain ⟨rfl, rfl⟩ := ht
        simp only [ev] at h
        split at h
        · rename_i t hv
          have hr := opd_rep he ho
          rw [hv] at hr
          refine wp_cond hr.bool_inv ?_
          cases t with
          | true => exact ih1 _ _ _ h1 he hi hn h hp
          | false => exact ih2 _ _ _ h2 he hi hn h hp
        · cases h
      · cases ht
    · cases ht
  | block id x ih =>
    intro lv lv' y ht c M R S w a Q e r he hi hn h hp
    simp only [trC, Option.map_eq_some_iff] at ht
    obtain ⟨⟨y1, lv1⟩, h1, ht⟩ := ht
    simp only [Prod.mk.injEq] at ht
    obtain ⟨rfl, rfl⟩ := ht
    simp only [ev] at h
    refine wp_block ?_
    cases hx : ev K L y1 e S with
    | none => rw [hx] at h; cases h
    | some r1 =>
      obtain ⟨x, e1, s1⟩ := r1
      refine ih _ _ _ h1 he hi hn hx ?_
      rw [hx] at h
      cases x with
      | nxt => simp only [Option.some.injEq] at h; subst h; exact hp
      | exit j =>
        simp only [Option.some.injEq] at h
        intro a1 w1 M1 R1 g1 g2 g3 g4 g5
        simp only [Ex.out, Exit.inBlock]
        by_cases hj : j = id
        · rw [if_pos hj] at h ⊢; subst h; exact hp a1 w1 M1 R1 g1 g2 g3 g4 g5
        · rw [if_neg hj] at h ⊢; subst h; exact hp a1 w1 M1 R1 g1 g2 g3 g4 g5
      | ret => simp only [Option.some.injEq] at h; subst h; exact hp
      | pan v => simp only [Option.some.injEq] at h; subst h; exact hp
  | loop x ih =>
    intro lv lv' y ht c M R S w a Q e r he hi hn h hp
    cases lv with
    | nil => simp [trC] at ht
    | cons live lv =>
      simp only [trC, Option.map_eq_some_iff] at ht
      obtain ⟨⟨y1, lv1⟩, h1, ht⟩ := ht
      simp only [Prod.mk.injEq] at ht
      obtain ⟨rfl, rfl⟩ := ht
      simp only [ev] at h
      exact (hL g x _ _ _ h1 live c M R S w a _ r Q (he.mask live) hi hn h hp).2
  | exit id =>
    intro lv lv' y ht c M R S w a Q e r he hi hn h hp
    simp only [trC, Option.some.injEq, Prod.mk.injEq] at ht
    obtain ⟨rfl, rfl⟩ := ht
    simp only [ev, Option.some.injEq] at h; subst h
    exact wp_exit (hp a w M R (Mem.le_refl M) (Hm.le_refl R) hi he (Same.refl a))
  | ret =>
    intro lv lv' y ht c M R S w a Q e r he hi hn h hp
    simp only [trC, Option.some.injEq, Prod.mk.injEq] at ht
    obtain ⟨rfl, rfl⟩ := ht
    simp only [ev, Option.some.injEq] at h; subst h
    exact wp_ret (hp a w M R (Mem.le_refl M) (Hm.le_refl R) hi he (Same.refl a))
  | refuse why =>
    intro lv lv' y ht c M R S w a Q e r he hi hn h hp
    simp only [trC, Option.some.injEq, Prod.mk.injEq] at ht
    obtain ⟨rfl, rfl⟩ := ht
    simp [ev, Opd.get] at h
  | _ => intro lv lv' y ht; cases lv <;> simp [trC] at ht

theorem lstep_sound {P : Program} {K : Calls} {L : Loops} (hK : Sound P K) (hL : LSound P L) (hm : P.follows .mixedOrders = true) : LSound P (lstep K L) := by
  intro g b lv lv' bc ht live c M R S w a e r Q he hi hn h hp
  have : b.wp P (Exit.then (LoopAt P b Q) Q) a w := by
    unfold lstep at h
    cases hx : ev K L bc e S with
    | none => rw [hx] at h; cases h
    | some r1 =>
      obtain ⟨x, e1, s1⟩ := r1
      refine code_ok hK hL hm b _ _ _ ht he hi hn hx ?_
      rw [hx] at h
      cases x with
      | nxt =>
        intro a1 w1 M1 R1 g1 g2 g3 g4 g5
        exact (hL g b _ _ _ ht live c M1 R1 s1 w1 a1 _ r Q (g4.mask live) g3 (by rw [g5.1]; exact hn) h (hp.mono g1 g2 g5)).1
      | exit id => simp only [Option.some.injEq] at h; subst h; exact hp
      | ret => simp only [Option.some.injEq] at h; subst h; exact hp
      | pan v => simp only [Option.some.injEq] at h; subst h; exact hp
  exact ⟨loopAt_of this, loop_of_round this⟩

end Ab

/-  Functions, and runs of any length. -/
namespace Ab
open Go
variable [Globs]

/-- A function of the runtime's own, or one that is told of by hand. -/
def PrimOk (P : Program) (f : Nat) (p : List V → St → Option Out) : Prop :=
  ∀ args s r, p args s = some r → ∀ M R w vals, Good M R s w → RepL M R args vals → CallSem P f vals.toArray w (Back M R s w r)

theorem args0_get (M : Mem) (R : Hm) : ∀ (args : List V) (vals : List Value) (k i : Nat), RepL M R args vals → (args0 k args).get i = .top ∨ (k ≤ i ∧ ∃ v, vals[i - k]? = some v ∧ Rep M R ((args0 k args).get i) v)
  | [], _, k, i, _ => .inl rfl
  | v :: args, vals, k, i, h => by
    cases h with
    | cons _ x _ xs hv hs =>
      simp only [args0, Env.get]
      by_cases hik : i = k
      · subst hik
        simp only [beq_self_eq_true, cond_true, Nat.sub_self]
        exact .inr ⟨Nat.le_refl _, x, by simp, hv⟩
      · have : (i == k) = false := by simp [hik]
        rw [this, cond_false]
        rcases args0_get M R args xs (k + 1) i hs with h1 | ⟨h1, y, h2, h3⟩
        · exact .inl h1
        · refine .inr ⟨by omega, y, ?_, h3⟩
          rw [show i - k = (i - (k + 1)) + 1 by omega]
          simpa using h2

theorem args_env {M : Mem} {R : Hm} {args : List V} {vals : List Value} (h : RepL M R args vals) (n : Nat) : RepEnv M R (args0 0 args) (vals.toArray ++ Array.replicate n Go.undef) := by
  intro i
  rcases args0_get M R args vals 0 i h with h1 | ⟨_, v, h2, h3⟩
  · rw [h1]; exact .top _
  · have hl : i < vals.length := by
      rcases Nat.lt_or_ge i vals.length with hlt | hge
      · exact hlt
      · rw [List.getElem?_eq_none (by simpa using hge)] at h2; cases h2
    rw [Array.getD_eq_getD_getElem?, Array.getElem?_append_left (by simpa using hl)]
    simp only [Nat.sub_zero] at h2
    have : vals.toArray[i]? = some v := by simpa using h2
    rw [this]; exact h3

def resF (tmps : Array Value) : ResultVar → Sem Value
  | .tmp t => pure (tmps.getD t Go.undef)
  | .cell a t => do loadVar t (← asAddr (tmps.getD a Go.undef))

theorem results_eq (fn : Func) (tmps : Array Value) : results fn tmps = (do let vs ← fn.results.mapM (resF tmps); pure (if h : vs.size = 1 then vs[0] else .tuple vs)) := by
  unfold results
  congr 1

theorem results_ok {P : Program} {c : Ctx} {M : Mem} {R : Hm} {S : St} {w : World} (hi : Inv c M R S w) {e : Env} {tmps : Array Value} (he : RepEnv M R e tmps) : ∀ (rs : List ResultVar) (rs' : List ResV) (vs : List V), trRes P rs = some rs' → resAll e S rs' = some vs →
    ∃ xs, (rs.mapM (resF tmps) : Sem (List Value)).run P w = .ok xs w ∧ RepL M R vs xs
  | [], rs', vs, h1, h2 => by
    simp only [trRes, Option.some.injEq] at h1; subst h1
    simp only [resAll, Option.some.injEq] at h2; subst h2
    exact ⟨[], by simp, .nil⟩
  | .tmp i :: rs, rs', vs, h1, h2 => by
    simp only [trRes, Option.map_eq_some_iff] at h1
    obtain ⟨r, hr, rfl⟩ := h1
    simp only [resAll, ResV.get, Option.map_eq_some_iff] at h2
    obtain ⟨vs', hvs, rfl⟩ := h2
    obtain ⟨xs, h3, h4⟩ := results_ok hi he rs r vs' hr hvs
    refine ⟨tmps.getD i Go.undef :: xs, ?_, .cons _ _ _ _ (he i) h4⟩
    simp only [List.mapM_cons, resF, Sem.run_bind, Sem.run_pure, Result.andThen_ok, h3]
  | .cell i t :: rs, rs', vs, h1, h2 => by
    simp only [trRes] at h1
    split at h1
    · rename_i ag n hag hn
      simp only [Option.map_eq_some_iff] at h1
      obtain ⟨r, hr, rfl⟩ := h1
      simp only [resAll, ResV.get] at h2
      split at h2
      · rename_i v hv
        simp only [Option.map_eq_some_iff] at h2
        obtain ⟨vs', hvs, rfl⟩ := h2
        split at hv
        · rename_i cs hl
          obtain ⟨b, off, y, hx, hrun, hy⟩ := run_loadVar (P := P) hi hag hn (he i) hl hv
          obtain ⟨xs, h3, h4⟩ := results_ok hi he rs r vs' hr hvs
          refine ⟨y :: xs, ?_, .cons _ _ _ _ hy h4⟩
          have ha : (asAddr (.pointer (some ⟨b, off, none⟩)) : Sem Addr) = pure ⟨b, off, none⟩ := rfl
          simp only [List.mapM_cons, resF, Sem.run_bind, hx, ha, Sem.run_pure, Result.andThen_ok, hrun, h3]
        · cases hv
      · cases h2
    · cases h1

theorem run_results {P : Program} {c : Ctx} {M : Mem} {R : Hm} {S : St} {w : World} (hi : Inv c M R S w) {e : Env} {tmps : Array Value} (he : RepEnv M R e tmps) {fn : Func} {rs : List ResV} {v : V} (h1 : trRes P fn.results.toList = some rs) (h2 : resOf e S rs = some v) :
    ∃ x, (results fn tmps).run P w = .ok x w ∧ Rep M R v x := by
  unfold resOf at h2
  cases hvs : resAll e S rs with
  | none => rw [hvs] at h2; cases h2
  | some vs =>
    obtain ⟨xs, h3, h4⟩ := results_ok (P := P) hi he _ _ _ h1 hvs
    have h5 : (results fn tmps).run P w = .ok (if h : xs.toArray.size = 1 then xs.toArray[0] else .tuple xs.toArray) w := by
      rw [results_eq, Array.mapM_eq_mapM_toList, Sem.run_bind, Sem.run_map]
      rw [h3]
      rfl
    rw [hvs] at h2
    refine ⟨_, h5, ?_⟩
    cases h4 with
    | nil => cases h2; exact .tup _ _ .nil
    | cons v1 x1 vs' xs' ha hb =>
      cases hb with
      | nil => cases h2; exact ha
      | cons v2 x2 vs'' xs'' hc hd =>
        cases h2
        exact .tup _ _ (.cons _ _ _ _ ha (.cons _ _ _ _ hc hd))

theorem body_ok {P : Program} {K : Calls} {L : Loops} (hK : Sound P K) (hL : LSound P L) (hm : P.follows .mixedOrders = true) {f : Nat} {func : Func} {cl kp : List Nat} {cv : CM} {lv : List (List Nat)} {fn : Fn}
    (hf : P.funcs[f]? = some func) (hnm : (func.name == "runtime.NumGoroutine") = false) (ht : trFn P cl kp cv lv func = some fn) {args : List V} {s : St} {r : Out} (h : body K L fn args s = some r)
    {M : Mem} {R : Hm} {w : World} {vals : List Value} (hg : Good M R s w) (hv : RepL M R args vals) : CallSem P f vals.toArray w (Back M R s w r) := by
  unfold trFn at ht
  cases hb : Nat.ble (func.params.size + func.nfree) func.ntmps with
  | false => rw [hb] at ht; cases ht
  | true =>
    rw [hb] at ht
    simp only [cond_true] at ht
    split at ht
    · rename_i c hc
      split at ht
      · rename_i b lv' rs hb1 hrs
        cases ht
        have hcall : (callFunc f vals.toArray).run P w = .ok (.enter f vals.toArray) w := by
          simp only [callFunc, Sem.run_bind, run_program, Result.andThen_ok, hf, hnm, Bool.false_eq_true, if_false, hc, Option.isNone_some, Sem.run_pure]
        unfold CallSem
        rw [hcall]
        simp only
        refine calls_of_wp hf hc ?_
        unfold body at h
        split at h
        · rename_i hlen
          have hn : func.ntmps ≤ (vals.toArray ++ Array.replicate (func.ntmps - vals.toArray.size) Go.undef).size := by simp; omega
          cases hev : ev K L b (args0 0 args) s with
          | none => simp only [hev] at h; cases h
          | some q =>
            obtain ⟨x, e, s'⟩ := q
            refine code_ok hK hL hm c _ _ _ hb1 (args_env hv _) hg.start hn hev ?_
            simp only [hev] at h
            cases x with
            | nxt =>
              simp only at h
              split at h
              · rename_i v hv'
                cases h
                intro a1 w1 M1 R1 g1 g2 g3 g4 g5
                obtain ⟨y, h5, h6⟩ := run_results (P := P) g3 g4 hrs hv'
                exact ⟨g5.2.1, y, h5, y, M1, R1, rfl, g1, g2, g3, h6⟩
              · cases h
            | ret =>
              simp only at h
              split at h
              · rename_i v hv'
                cases h
                intro a1 w1 M1 R1 g1 g2 g3 g4 g5
                obtain ⟨y, h5, h6⟩ := run_results (P := P) g3 g4 hrs hv'
                exact ⟨g5.2.1, y, h5, y, M1, R1, rfl, g1, g2, g3, h6⟩
              · cases h
            | exit id => cases h
            | pan v =>
              simp only [Option.some.injEq] at h; subst h
              intro y a1 w1 M1 R1 g1 g2 g3 g4 g5
              exact ⟨g5.2.1, y, M1, R1, rfl, g1, g2, g3, g4⟩
        · cases h
      · cases ht
    · cases ht

end Ab

/-  Functions that defer one closure, which recovers. -/
namespace Ab
open Go
variable [Globs]

def GuardOk (P : Program) (f : Nat) (G : GFn) : Prop :=
  ∃ func hfunc cl kp cv lv hlv, P.funcs[f]? = some func ∧ (func.name == "runtime.NumGoroutine") = false ∧ P.funcs[G.df]? = some hfunc ∧ (hfunc.name == "runtime.NumGoroutine") = false ∧ trGF P cl kp cv lv hlv G.df func hfunc = some G

section
variable {P : Program}

theorem deferOf_some {o : Oper} {dt : Tmp} (h : deferOf o = some dt) : o.dst = none ∧ o.guard = none ∧ ∃ c, o.op = .defer c ∧ c.callee = .value (.tmp dt) ∧ c.args = #[] := by
  unfold deferOf at h
  split at h
  · rename_i c h1 h2 h3
    split at h
    · rename_i t hc
      cases hb : c.args.toList.isEmpty with
      | false => rw [hb] at h; cases h
      | true =>
        rw [hb] at h; cases h
        exact ⟨h1, h3, c, h2, hc, by simpa using hb⟩
    · cases h
  · cases h

theorem recOf_some {o : Oper} {hd : Tmp} (h : recOf o = some hd) : o.dst = some hd ∧ o.guard = none ∧ ∃ c, o.op = .call c ∧ c.callee = .builtin .recover := by
  unfold recOf at h
  split at h
  · rename_i d c h1 h2 h3
    split at h
    · rename_i hc
      cases h
      exact ⟨h1, h3, c, h2, hc⟩
    · cases h
  · cases h

theorem opsS_of {os : Array Oper} {cs : List Frame} {Q : Exit → Act → List Frame → World → Prop} (hl : ¬ LetsOut (fun e a w => Q e a cs w)) : ∀ (π : List Nat) (a : Act) (w : World), wpOps P os (fun e a w => Q e a cs w) π a w → wpOpsS P os Q π a cs w
  | [], a, w, h => h
  | i :: π, a, w, h => by
    simp only [wpOps] at h
    simp only [wpOpsS]
    cases ho : os[i]? with
    | none => rw [ho] at h; exact opsS_of hl π a w h
    | some o =>
      rw [ho] at h
      simp only at h ⊢
      split
      · rename_i hw
        rw [if_pos hw] at h
        rcases h with h | h
        · have h2 := Oper.wp_mono (K' := fun a w => wpOpsS P os Q π a cs w) (fun a w => opsS_of hl π a w) h
          unfold Oper.wp at h2
          split
          · rename_i w' hr
            rw [hr] at h2
            exact h2.elim
          · exact h2
        · exact absurd h.2 hl
      · rename_i hw
        rw [if_neg hw] at h
        exact opsS_of hl π _ w h

theorem mask_mem (e : Env) : ∀ (live : List Nat) (i : Nat), (e.mask live).get i = if i ∈ live then e.get i else .top
  | [], i => by simp [Env.mask, Env.get]
  | j :: live, i => by
    simp only [Env.mask, List.map_cons, Env.get]
    by_cases h : i = j
    · subst h; simp
    · have : (i == j) = false := by simp [h]
      rw [this, cond_false]
      have ih := mask_mem e live i
      unfold Env.mask at ih
      rw [ih]
      simp [h]

theorem mask_env {M M' : Mem} {R R' : Hm} {e : Env} {a a' : Act} {pr : List Nat} (he : RepEnv M R e a.tmps) (hM : M.le M') (hR : R.le R') (hs : Same pr a a') : RepEnv M' R' (e.mask pr) a'.tmps := by
  intro i
  rw [mask_mem]
  split
  · rename_i hi
    rw [hs.2.2 i hi]
    exact (he i).mono hM hR
  · exact .top _

/-- The deferred closure, called when the function is done or when it panics. -/
theorem handle_ok {K : Calls} {L : Loops} (hK : Sound P K) (hL : LSound P L) (hm : P.follows .mixedOrders = true) {g : Cfg} {fn hfn : Func} {df : Nat} (hf : P.funcs[df]? = some hfn) {id : Nat} {hos : Array Oper} {hrest : Code}
    (hb : hfn.body = some (.seq (.region id hos false) hrest)) (hres : hfn.results.toList = []) {hd : Nat} {oR : Oper} {hops : List Oper} (hh : hos.toList = oR :: hops) (hrec1 : recOf oR = some hd)
    {ios : List IOp} (hio : trOpers P g hos hops = some ios) {lv lv' : List (List Nat)} {hr : C} (hhr : trC P g hrest lv = some (hr, lv')) (hg : g.nt = hfn.ntmps) (hgp : g.prot = []) (hhd : hd < hfn.ntmps)
    {e1 : Env} {prot : List Nat} {res : List ResV} (hrs : trRes P fn.results.toList = some res) {caps : List V} {rv : V} {s2 s3 s4 : St} {e2 e3 : Env} {x3 : Ex} {v : V}
    (h1 : ops K ios ((hd, rv) :: args0 0 caps) s2 = some (.nxt, e2, s3)) (h2 : ev K L hr e2 s3 = some (x3, e3, s4)) (hx : x3 = .nxt ∨ x3 = .ret) (h3 : resOf (e1.mask prot) s4 res = some v)
    {c : Ctx} {M : Mem} {R : Hm} {w : World} {vals : List Value} {tmps : Array Value} (hi : Inv c M R s2 w) (hv : RepL M R caps vals) (he : RepEnv M R (e1.mask prot) tmps)
    {u : FrameMode} {y : Value} (hu : (u = .returning ∧ y = .nilIface) ∨ u = .panicking [{ v := y, recovered := false }]) (hy : Rep M R rv y) {Rr : Ending → World → Prop} (hro : ∀ w, ¬ Rr .outgrown w)
    (hk : ∀ x w' M' R', M.le M' → R.le R' → Inv c M' R' s4 w' → Rep M' R' v x → Rr (.returned x) w') :
    CallsD P df vals.toArray u w fun
      | .returned _, u', w' => Leaves P fn tmps Rr [] (settle u') w'
      | .panicked chain, u', w' => Leaves P fn tmps Rr [] (raised u' chain) w'
      | .outgrown, _, w' => Rr .outgrown w' := by
  refine callsD_of_wpS hf hb fun c₀ cs hc₀ => ?_
  refine wpS_seq (wpS_region ?_)
  have hsz : hos.size = hops.length + 1 := by rw [← Array.length_toList, hh]; rfl
  rw [hsz, List.range_succ_eq_map]
  have h0 : hos[0]? = some oR := by rw [← Array.getElem?_toList, hh]; rfl
  obtain ⟨hRd, hRg, cl, hRo, hcl⟩ := recOf_some hrec1
  simp only [wpOpsS, h0, Region.wanted, hRg, hRd, if_true]
  have hrec : ∀ ρ, (execOp ρ oR).run P w = .ok .recover w := by
    intro ρ
    simp only [execOp, hRo, resolve, hcl, Sem.run_bind, Sem.run_pure, Result.andThen_ok, invoke, builtin]
  simp only [hrec]
  -- the frame behind, and what is recovered
  have key : ∀ (u' : FrameMode), settle u' = .returning → wpOpsS P hos (Exit.thenS (hrest.wpS P (bodyPostS P hfn c₀ cs fun
      | .returned _, u', w' => Leaves P fn tmps Rr [] (settle u') w'
      | .panicked chain, u', w' => Leaves P fn tmps Rr [] (raised u' chain) w'
      | .outgrown, _, w' => Rr .outgrown w')) (bodyPostS P hfn c₀ cs fun
      | .returned _, u', w' => Leaves P fn tmps Rr [] (settle u') w'
      | .panicked chain, u', w' => Leaves P fn tmps Rr [] (raised u' chain) w'
      | .outgrown, _, w' => Rr .outgrown w')) ((List.range hops.length).map Nat.succ)
      (Act.put { tmps := vals.toArray ++ Array.replicate (hfn.ntmps - vals.toArray.size) Go.undef, defers := [] } (some hd) y) ({ c₀ with mode := u' } :: cs) w := by
    intro u' hu'
    refine opsS_of (fun hl => ?_) _ _ _ ?_
    · obtain ⟨_, w', u', h⟩ := hl; exact hro w' h
    have hn : g.nt ≤ (vals.toArray ++ Array.replicate (hfn.ntmps - vals.toArray.size) Go.undef).size := by simp; omega
    refine wpOps_ok' (ios := default :: ios) hK _ (fun i hi' => ?_) (e := (hd, rv) :: args0 0 caps) (M := M) (R := R) (S := s2) (r := (.nxt, e2, s3)) ?_ hi (by rw [(Same.put (pr := []) _ _ _ (fun _ _ => by simp)).1]; exact hn) ?_ ?_
    · obtain ⟨k, hk', rfl⟩ := List.mem_map.1 hi'
      have hlt : k < hops.length := by simpa using hk'
      obtain ⟨io, ho1, ho2⟩ := trOpers_get hio k hops[k] (by simp [hlt])
      refine ⟨hops[k], ?_, by rw [ho2]; simp [List.getD, ho1]⟩
      rw [← Array.getElem?_toList, hh]; simp [hlt]
    · exact RepEnv.put (e := args0 0 caps) (d := some hd) (args_env hv _) hy fun k hk' => by cases hk'; simp; omega
    · have hl := trOpers_len hio
      unfold opsAt
      rw [List.map_map]
      have : (List.range hops.length).map ((fun i => (default :: ios).getD i default) ∘ Nat.succ) = ios := by
        rw [← hl]
        have := range_map ios (default : IOp)
        simpa [Function.comp_def] using this
      rw [this]; exact h1
    · intro a2 w2 M2 R2 g1 g2 g3 g4 g5
      simp only [Ex.out, Exit.thenS]
      refine wpS_of_wp ?_
      refine code_ok hK hL hm hrest _ _ _ hhr g4 g3 (by rw [g5.1, (Same.put (pr := []) _ _ _ (fun _ _ => by simp)).1]; exact hn) h2 ?_
      have done : ∀ (a3 : Act) (w3 : World) (M3 : Mem) (R3 : Hm), M2.le M3 → R2.le R3 → Inv c M3 R3 s4 w3 → Same g.prot a2 a3 → 
          a3.defers = [] ∧ ∃ u'', ({ c₀ with mode := u' } :: cs : List Frame) = { c₀ with mode := u'' } :: cs ∧ ∃ x, (results hfn a3.tmps).run P w3 = .ok x w3 ∧ Leaves P fn tmps Rr [] (settle u'') w3 := by
        intro a3 w3 M3 R3 k1 k2 k3 k5
        refine ⟨by rw [k5.2.1, g5.2.1]; rfl, u', rfl, ?_⟩
        obtain ⟨z, z1, z2⟩ := run_results (P := P) (fn := fn) (tmps := tmps) k3 (he.mono (Mem.le_trans g1 k1) (Hm.le_trans g2 k2)) hrs h3
        refine ⟨.tuple #[], ?_, ?_⟩
        · rw [results_eq, Array.mapM_eq_mapM_toList, hres]
          simp
        · rw [hu']
          exact ⟨z, z1, hk z w3 M3 R3 (Mem.le_trans g1 k1) (Hm.le_trans g2 k2) k3 z2⟩
      rcases hx with rfl | rfl
      · intro a3 w3 M3 R3 k1 k2 k3 _ k5; exact done a3 w3 M3 R3 k1 k2 k3 k5
      · intro a3 w3 M3 R3 k1 k2 k3 _ k5; exact done a3 w3 M3 R3 k1 k2 k3 k5
  rcases hu with ⟨rfl, rfl⟩ | rfl
  · have : recoverD (c₀ :: cs) = none := by simp [recoverD, hc₀]
    rw [this]
    have hc : ({ c₀ with mode := .returning } : Frame) = c₀ := by rw [← hc₀]
    have := key .returning rfl
    rw [hc] at this
    exact this
  · have : recoverD (c₀ :: cs) = some (y, { c₀ with mode := .panicking [{ v := y, recovered := true }] } :: cs) := by simp [recoverD, hc₀]
    rw [this]
    exact key (.panicking [{ v := y, recovered := true }]) rfl


theorem guard_ok {K : Calls} {L : Loops} (hK : Sound P K) (hL : LSound P L) (hm : P.follows .mixedOrders = true) {f : Nat} {G : GFn} (hG : GuardOk P f G) {args : List V} {s : St} {r : Out} (h : gbody K L G args s = some r)
    {M : Mem} {R : Hm} {w : World} {vals : List Value} (hgd : Good M R s w) (hv : RepL M R args vals) : CallSem P f vals.toArray w (Back M R s w r) := by
  obtain ⟨func, hfunc, cl, kp, cv, live, hlive, hf, hnm, hdf, hdnm, ht⟩ := hG
  unfold trGF at ht
  split at ht
  · rename_i id0 os0 id1 os1 rest hid hos hrest hfb hhb
    split at ht
    · rename_i o1 o2 oR hops hos1 hhos
      rcases hdef : deferOf o2 with _ | dt
      · rw [hdef] at ht; cases ht
      rcases hrc : recOf oR with _ | hd
      · rw [hdef, hrc] at ht; cases ht
      rw [hdef, hrc] at ht
      simp only at ht
      cases hbb : (Nat.ble (func.params.size + func.nfree) func.ntmps && Nat.ble (hfunc.params.size + hfunc.nfree) hfunc.ntmps && Nat.blt hd hfunc.ntmps && o1.guard.isNone && hfunc.results.toList.isEmpty) with
      | false => rw [hbb] at ht; cases ht
      | true =>
        rw [hbb] at ht
        simp only [cond_true] at ht
        simp only [Bool.and_eq_true] at hbb
        obtain ⟨⟨⟨⟨hb1, hb2⟩, hb3⟩, hb4⟩, hb5⟩ := hbb
        split at ht
        · rename_i pre m rr lr hp hr' lhr rs hpre hmk hrest' hhp hhr hrs
          have hG := Option.some.inj ht
          have hcall : (callFunc f vals.toArray).run P w = .ok (.enter f vals.toArray) w := by
            simp only [callFunc, Sem.run_bind, run_program, Result.andThen_ok, hf, hnm, Bool.false_eq_true, if_false, hfb, Option.isNone_some, Sem.run_pure]
          unfold CallSem
          rw [hcall]
          simp only
          refine calls_of_wp_defers hf hfb ?_
          unfold gbody at h
          split at h
          · rename_i hlen
            have hn : func.ntmps ≤ (vals.toArray ++ Array.replicate (func.ntmps - vals.toArray.size) Go.undef).size := by simp; omega
            split at h
            · rename_i e0 s0 h0
              split at h
              · rename_i e1 s1 h1
                split at h
                · rename_i ff caps hcaps
                  cases hc2 : (Nat.beq ff G.df && Nat.beq caps.length G.hnp) with
                  | false => rw [hc2] at h; cases h
                  | true =>
                    rw [hc2] at h
                    simp only [cond_true] at h
                    simp only [Bool.and_eq_true] at hc2
                    have hff := Nat.eq_of_beq_eq_true hc2.1
                    subst hff
                    -- the fields
                    have gpre : G.pre = pre := by rw [← hG]
                    have gm : G.fnop = m := by rw [← hG]
                    have gdt : G.dt = dt := by rw [← hG]
                    have gprot : G.prot = cellsOf func.results.toList := by rw [← hG]
                    have gres : G.res = rs := by rw [← hG]
                    have grest : G.rest = rr := by rw [← hG]
                    have ghd : G.hd = hd := by rw [← hG]
                    have ghops : G.hops = hp := by rw [← hG]
                    have ghrest : G.hrest = hr' := by rw [← hG]
                    rw [gpre] at h0
                    rw [gm] at h1
                    rw [gdt] at hcaps
                    rw [grest] at h
                    -- the first row
                    refine wp_seq (wp_region ?_)
                    refine wpOps_ok hK hpre _ (fun i hi' => by simpa using hi') (args_env hv _) hgd.start hn (r := (.nxt, e0, s0)) ?_ ?_
                    · have hl : pre.length = os0.size := by have := trOpers_len hpre; simpa using this
                      unfold opsAt
                      rw [← hl, range_map]; exact h0
                    · intro a1 w1 M1 R1 g1 g2 g3 g4 g5
                      simp only [Ex.out, Exit.then]
                      -- the closure is made, and deferred
                      refine wp_seq (wp_region ?_)
                      have hsz : os1.size = 2 := by rw [← Array.length_toList, hos1]; rfl
                      rw [hsz]
                      have ho0 : os1[0]? = some o1 := by rw [← Array.getElem?_toList, hos1]; rfl
                      obtain ⟨hDd, hDg, cd, hDo, hDc, hDa⟩ := deferOf_some hdef
                      have ho1 : os1[1]? = some o2 := by rw [← Array.getElem?_toList, hos1]; rfl
                      have hgn : o1.guard = none := by simpa using hb4
                      show wpOps P os1 _ [0, 1] a1 w1
                      simp only [wpOps, ho0, ho1, Region.wanted, hgn, hDg, if_true]
                      refine .inl ?_
                      obtain ⟨hd1, hd2, hd3⟩ := trOper_parts hmk
                      rw [ops_one] at h1
                      have hone : ∃ v1, insV K e0 s0 m.ins = some (.val v1 s1) ∧ e1 = e0.put m.dst v1 := by
                        have hgm : m.g = none := by rw [hgn] at hd2; simp only [trGuard, Option.some.injEq] at hd2; exact hd2.symm
                        simp only [one, hgm, wanted] at h1
                        split at h1
                        · rename_i v1 s1' hv1
                          simp only [ops, Option.some.injEq, Prod.mk.injEq, true_and] at h1
                          obtain ⟨rfl, rfl⟩ := h1
                          exact ⟨v1, hv1, rfl⟩
                        · simp at h1
                        · cases h1
                      obtain ⟨v1, hv1, he1⟩ := hone
                      refine oper_wp hK hmk g3 g4 hv1 ?_
                      intro x1 w2 M2 R2 g6 g7 g8 g9
                      refine .inl ?_
                      have hn1 : func.ntmps ≤ a1.tmps.size := by rw [g5.1]; exact hn
                      have he2 : RepEnv M2 R2 e1 (a1.put o1.dst x1).tmps := by
                        rw [he1, hd1]
                        exact RepEnv.put (g4.mono g6 g7) g9 fun k hk => Nat.lt_of_lt_of_le (hd3 k hk).1 hn1
                      have hclo := he2 dt
                      rw [hcaps] at hclo
                      generalize hxv : (a1.put o1.dst x1).tmps.getD dt Go.undef = xv at hclo
                      cases hclo with
                      | fn _ _ _ fs bs hfs hbs =>
                        cases hfs
                        unfold Oper.wp
                        have hexe : (execOp (a1.put o1.dst x1).eval o2).run P w2 = .ok (.defer { target := .fn (.func G.df) bs.toArray, args := #[] }) w2 := by
                          simp [execOp, hDo, hDc, hDa, resolve, Act.eval, hxv, Deferred.ofValue]
                        rw [hexe, Oper.upon_defer]
                        rw [hDd]
                        show Code.wp P rest (bodyPostD P func (Back M R s w r)) { tmps := (a1.put o1.dst x1).tmps, defers := { target := .fn (.func G.df) bs.toArray, args := #[] } :: (a1.put o1.dst x1).defers } w2
                        -- the rest
                        have hsz2 : (a1.put o1.dst x1).tmps.size = a1.tmps.size := (Same.put (pr := []) _ _ _ (fun _ _ => by simp)).1
                        have hdfs : (a1.put o1.dst x1).defers = [] := by rw [(Same.put (pr := []) _ _ _ (fun _ _ => by simp)).2.1, g5.2.1]
                        generalize hA : (a1.put o1.dst x1) = A at he2 hsz2 hdfs
                        have hinv : (invoke (.fn (.func G.df) bs.toArray) #[]).run P = fun w => .ok (.enter G.df bs.toArray) w := by
                          funext w
                          simp only [invoke, Array.empty_append, callFunc, Sem.run_bind, run_program, Result.andThen_ok, hdf, hdnm, Bool.false_eq_true, if_false, hhb, Option.isNone_some, Sem.run_pure]
                        have hout : ∀ w', ¬ Back M R s w r .outgrown w' := by
                          intro w' hb
                          cases r with
                          | ret v s' => obtain ⟨x, M', R', hx, _⟩ := hb; cases hx
                          | pan v s' => obtain ⟨x, M', R', hx, _⟩ := hb; cases hx
                        -- how it ends
                        have leave : ∀ (rv : V) (s2 : St) (u : FrameMode) (y : Value) (a3 : Act) (w3 : World) (M3 : Mem) (R3 : Hm), ghandle K L G e1 caps rv s2 = some r → u ≠ .run → ((u = .returning ∧ y = .nilIface) ∨ u = .panicking [{ v := y, recovered := false }]) →
                            M2.le M3 → R2.le R3 → Inv ⟨w, lv R s, M⟩ M3 R3 s2 w3 → Rep M3 R3 rv y → Same (cellsOf func.results.toList) { A with defers := [{ target := .fn (.func G.df) bs.toArray, args := #[] }] } a3 → Leaves P func a3.tmps (Back M R s w r) a3.defers u w3 := by
                          intro rv s2 u y a3 w3 M3 R3 hgh hu1 hu k1 k2 k3 k4 k5
                          rw [k5.2.1]
                          refine leaves_cons hu1 (by rw [hinv]) ?_
                          unfold ghandle at hgh
                          rw [ghops, ghd, ghrest, gres, gprot] at hgh
                          split at hgh
                          · rename_i e2 s3 hh1
                            have fin : ∀ (x3 : Ex) (e3 : Env) (s4 : St) (v : V), ev K L hr' e2 s3 = some (x3, e3, s4) → (x3 = .nxt ∨ x3 = .ret) → resOf (e1.mask (cellsOf func.results.toList)) s4 rs = some v → r = .ret v s4 → 
                                CallsD P G.df bs.toArray u w3 fun
                                  | .returned _, u', w' => Leaves P func a3.tmps (Back M R s w r) [] (settle u') w'
                                  | .panicked chain, u', w' => Leaves P func a3.tmps (Back M R s w r) [] (raised u' chain) w'
                                  | .outgrown, _, w' => Back M R s w r .outgrown w' := by
                              intro x3 e3 s4 v hev hx hres hrr
                              refine handle_ok hK hL hm hdf hhb (by simpa using hb5) hhos hrc hhp hhr rfl rfl (Nat.le_of_ble_eq_true hb3) hrs hh1 hev hx hres k3 (hbs.mono k1 k2) (mask_env (a := { tmps := A.tmps, defers := [{ target := .fn (.func G.df) bs.toArray, args := #[] }] }) he2 k1 k2 k5) hu k4 hout ?_
                              intro x w' M' R' q1 q2 q3 q4
                              subst hrr
                              exact ⟨x, M', R', rfl, Mem.le_trans g1 (Mem.le_trans g6 (Mem.le_trans k1 q1)), Hm.le_trans g2 (Hm.le_trans g7 (Hm.le_trans k2 q2)), q3, q4⟩
                            split at hgh
                            · rename_i e3 s4 hev
                              split at hgh
                              · rename_i v hres
                                exact fin _ _ _ v hev (.inl rfl) hres (Option.some.inj hgh).symm
                              · cases hgh
                            · rename_i e3 s4 hev
                              split at hgh
                              · rename_i v hres
                                exact fin _ _ _ v hev (.inr rfl) hres (Option.some.inj hgh).symm
                              · cases hgh
                            · cases hgh
                          · cases hgh
                        rw [hdfs]
                        cases hev : ev K L rr e1 s1 with
                        | none => rw [hev] at h; cases h
                        | some q =>
                          obtain ⟨x, e2, s2⟩ := q
                          rw [hev] at h
                          refine code_ok hK hL hm rest _ _ _ hrest' (a := { A with defers := [{ target := .fn (.func G.df) bs.toArray, args := #[] }] }) he2 g8 (by show func.ntmps ≤ A.tmps.size; rw [hsz2]; exact hn1) hev ?_
                          cases x with
                          | nxt =>
                            intro a3 w3 M3 R3 k1 k2 k3 _ k5
                            exact leave .nili s2 .returning .nilIface a3 w3 M3 R3 h (by simp) (.inl ⟨rfl, rfl⟩) k1 k2 k3 .nili k5
                          | ret =>
                            intro a3 w3 M3 R3 k1 k2 k3 _ k5
                            exact leave .nili s2 .returning .nilIface a3 w3 M3 R3 h (by simp) (.inl ⟨rfl, rfl⟩) k1 k2 k3 .nili k5
                          | pan v =>
                            intro y a3 w3 M3 R3 k1 k2 k3 k4 k5
                            exact leave v s2 (.panicking [{ v := y, recovered := false }]) y a3 w3 M3 R3 h (by simp) (.inr rfl) k1 k2 k3 k4 k5
                          | exit id => cases h
                · cases h
              · cases h
            · cases h
          · cases h
        · cases ht
    · cases ht
  · cases ht

end
end Ab

/-  Runs of any length. -/
namespace Ab
open Go
variable [Globs]

structure ProgOk (P : Program) (Pr : Prog) : Prop where
  code : ∀ f fn, Pr f = some (.code fn) → ∃ func cl kp cv lv, P.funcs[f]? = some func ∧ (func.name == "runtime.NumGoroutine") = false ∧ trFn P cl kp cv lv func = some fn
  guard : ∀ f G, Pr f = some (.guard G) → GuardOk P f G
  prim : ∀ f p, Pr f = some (.prim p) → PrimOk P f p

theorem step_sound {P : Program} {Pr : Prog} (hP : ProgOk P Pr) {K : Calls} {L : Loops} (hK : Sound P K) (hL : LSound P L) (hm : P.follows .mixedOrders = true) : Sound P (step Pr K L) := by
  intro f args s r h M R w vals hg hv
  unfold step at h
  split at h
  · rename_i fn hf
    obtain ⟨func, cl, kp, cv, lv, h1, h2, h3⟩ := hP.code f fn hf
    exact body_ok hK hL hm h1 h2 h3 h hg hv
  · rename_i G hf
    exact guard_ok hK hL hm (hP.guard f G hf) h hg hv
  · rename_i p hf
    exact hP.prim f p hf args s r h M R w vals hg hv
  · cases h

theorem runN_sound {P : Program} {Pr : Prog} (hP : ProgOk P Pr) (hm : P.follows .mixedOrders = true) : ∀ n, Sound P (runN Pr n).1 ∧ LSound P (runN Pr n).2
  | 0 => ⟨by intro f a s r h; simp [runN] at h, by intro g b lv lv' bc ht live c M R S w a e r Q he hi hn h; simp [runN] at h⟩
  | n + 1 => ⟨step_sound hP (runN_sound hP hm n).1 (runN_sound hP hm n).2 hm, lstep_sound (runN_sound hP hm n).1 (runN_sound hP hm n).2 hm⟩

theorem run_sound {P : Program} {Pr : Prog} (hP : ProgOk P Pr) (hm : P.follows .mixedOrders = true) : Sound P (run Pr) := by
  intro f args s r h
  obtain ⟨n, hn⟩ := run_some h
  exact (runN_sound hP hm n).1 f args s r hn

end Ab

/-  The abstract machine once more, in a form that Lean's kernel reckons fast; it tells the same. -/
namespace Ab
noncomputable section
open Go (IntKind BinOp UnOp)

/-- So many alike. -/
def rpl (n : Nat) (v : V) : List V := List.replicate n v
theorem rpl_length (n : Nat) (v : V) : (rpl n v).length = n := List.length_replicate

theorem brec {α : Type} (b : Bool) (x y : α) : (Bool.rec (motive := fun _ => α) x y b) = bif b then y else x := by cases b <;> rfl

/-! environments -/
def fget (e : Env) (i : Nat) : V := List.rec V.top (fun p _ ih => Bool.rec ih p.2 (Nat.beq i p.1)) e

theorem beq_nat (i j : Nat) : (i == j) = Nat.beq i j := by rw [Bool.eq_iff_iff]; simp

theorem fget_eq (e : Env) (i : Nat) : fget e i = e.get i := by
  induction e with
  | nil => rfl
  | cons p e ih =>
    obtain ⟨j, v⟩ := p
    rw [show fget ((j, v) :: e) i = (Bool.rec (motive := fun _ => V) (fget e i) v (Nat.beq i j)) from rfl, brec]
    simp only [Env.get, beq_nat]
    cases Nat.beq i j
    · exact ih
    · rfl

def fmask (live : List Nat) (e : Env) : Env := List.rec [] (fun i _ ih => (i, fget e i) :: ih) live
theorem fmask_eq (live : List Nat) (e : Env) : fmask live e = e.mask live := by
  induction live with
  | nil => rfl
  | cons i l ih =>
    show (i, fget e i) :: fmask l e = _
    rw [ih, fget_eq]; rfl

def oget : Opd → Env → V := Opd.rec (fun i e => fget e i) (fun v _ => v) (fun i _ => .fn i [] [])
theorem oget_eq (x : Opd) (e : Env) : oget x e = x.get e := by
  cases x
  · exact fget_eq e _
  · rfl
  · rfl

def ogets (xs : List Opd) (e : Env) : List V := List.rec [] (fun x _ ih => oget x e :: ih) xs
theorem ogets_eq (xs : List Opd) (e : Env) : ogets xs e = xs.map (·.get e) := by
  induction xs with
  | nil => rfl
  | cons x l ih =>
    show oget x e :: ogets l e = _
    rw [ih, oget_eq]; rfl

/-! numbers -/
def kix : IntKind → Nat := IntKind.rec 0 1 2 3 4 5 6 7
def ktop : IntKind → Nat := IntKind.rec 127 32767 2147483647 9223372036854775807 255 65535 4294967295 18446744073709551615

theorem kix_inj {k k' : IntKind} (h : Nat.beq (kix k) (kix k') = true) : k = k' := by
  cases k <;> cases k' <;> first | rfl | cases h

theorem wrap_small {k : IntKind} {n : Nat} (h : Nat.ble n (ktop k) = true) : k.wrap (n : Int) = n := by
  have h := Nat.le_of_ble_eq_true h
  cases k <;> simp only [ktop] at h <;> simp only [IntKind.wrap, IntKind.bits, IntKind.signed] <;> simp <;> omega

def nArith (op : BinOp) (f : Nat → Nat → Nat) (x y : V) : Option V :=
  match x, y with
  | .int k (.ofNat a), .int k' (.ofNat b) => Bool.rec (binV op x y) (some (.int k (.ofNat (f a b)))) (and (Nat.beq (kix k) (kix k')) (Nat.ble (f a b) (ktop k)))
  | _, _ => binV op x y
def nSub (x y : V) : Option V :=
  match x, y with
  | .int k (.ofNat a), .int k' (.ofNat b) => Bool.rec (binV .sub x y) (some (.int k (.ofNat (Nat.sub a b)))) (and (Nat.beq (kix k) (kix k')) (and (Nat.ble b a) (Nat.ble (Nat.sub a b) (ktop k))))
  | _, _ => binV .sub x y
def nBits (op : BinOp) (f : Nat → Nat → Nat) (x y : V) : Option V :=
  match x, y with
  | .int k (.ofNat a), .int k' (.ofNat b) => Bool.rec (binV op x y) (some (.int k (.ofNat (f a b)))) (and (Nat.beq (kix k) (kix k')) (and (Nat.ble (f a b) (ktop k)) (and (Nat.ble a (ktop k)) (Nat.ble b (ktop k)))))
  | _, _ => binV op x y
def nCmp (op : BinOp) (f : Nat → Nat → Bool) (g : List UInt8 → List UInt8 → Option V) (x y : V) : Option V :=
  match x, y with
  | .int k (.ofNat a), .int k' (.ofNat b) => Bool.rec (binV op x y) (some (.bool (f a b))) (Nat.beq (kix k) (kix k'))
  | .str a, .str b => g a b
  | _, _ => binV op x y
def nShl (x y : V) : Option V :=
  match x, y with
  | .int k (.ofNat a), .int _ (.ofNat b) => Bool.rec (binV .shl x y) (some (.int k (.ofNat (Nat.shiftLeft a b)))) (and (Nat.ble b 63) (and (Nat.ble (Nat.shiftLeft a b) (ktop k)) (Nat.ble b k.bits)))
  | _, _ => binV .shl x y
def nShr (x y : V) : Option V :=
  match x, y with
  | .int k (.ofNat a), .int _ (.ofNat b) => Bool.rec (binV .shr x y) (some (.int k (.ofNat (Nat.shiftRight a b)))) (Nat.ble b k.bits)
  | _, _ => binV .shr x y

def beqL (a : List UInt8) : List UInt8 → Bool := List.rec (fun b => List.rec true (fun _ _ _ => false) b) (fun x _ ih b => List.rec false (fun y b' _ => Bool.rec false (ih b') (Nat.beq x.toNat y.toNat)) b) a

theorem beqL_eq : ∀ (a b : List UInt8), beqL a b = (a == b)
  | [], [] => rfl
  | [], _ :: _ => rfl
  | _ :: _, [] => rfl
  | x :: a, y :: b => by
    rw [show beqL (x :: a) (y :: b) = (Bool.rec (motive := fun _ => Bool) false (beqL a b) (Nat.beq x.toNat y.toNat)) from rfl, brec, beqL_eq a b, List.cons_beq_cons]
    have : Nat.beq x.toNat y.toNat = (x == y) := by
      rw [Bool.eq_iff_iff]; simp only [Nat.beq_eq, beq_iff_eq]; exact ⟨UInt8.toNat_inj.1, fun h => by rw [h]⟩
    rw [this]
    cases x == y <;> rfl

def fbin : BinOp → V → V → Option V := BinOp.rec (nArith .add Nat.add) nSub (nArith .mul Nat.mul) (binV .quo) (binV .rem) (nBits .and Nat.land) (nBits .or Nat.lor) (nBits .xor Nat.xor) nShl nShr (binV .andNot)
  (nCmp .eql Nat.beq fun a b => some (.bool (beqL a b))) (nCmp .neq (fun a b => not (Nat.beq a b)) fun a b => some (.bool (not (beqL a b)))) (nCmp .lss Nat.blt (strBin .lss)) (nCmp .leq Nat.ble (strBin .leq)) (nCmp .gtr (fun a b => Nat.blt b a) (strBin .gtr)) (nCmp .geq (fun a b => Nat.ble b a) (strBin .geq))

theorem nArith_ok (op : BinOp) (f : Nat → Nat → Nat) (hf : ∀ k a b, intBin op k (Int.ofNat a) (Int.ofNat b) = some (.int k (k.wrap (f a b : Nat)))) (ho : op ≠ .shl ∧ op ≠ .shr) (x y : V) : nArith op f x y = binV op x y := by
  unfold nArith
  split
  · rename_i k a k' b
    rw [brec]
    cases h : (Nat.beq (kix k) (kix k') && Nat.ble (f a b) (ktop k))
    · rfl
    · rw [Bool.and_eq_true] at h
      have := kix_inj h.1; subst this
      simp only [cond_true, binV]
      split
      · exact absurd rfl ho.1
      · exact absurd rfl ho.2
      · simp only [if_true]
        rw [hf, wrap_small h.2]; rfl
  · rfl

theorem nSub_ok (x y : V) : nSub x y = binV .sub x y := by
  unfold nSub
  split
  · rename_i k a k' b
    rw [brec]
    cases h : (Nat.beq (kix k) (kix k') && (Nat.ble b a && Nat.ble (Nat.sub a b) (ktop k)))
    · rfl
    · simp only [Bool.and_eq_true] at h
      have := kix_inj h.1; subst this
      simp only [cond_true, binV, if_true, intBin]
      have h2 := Nat.le_of_ble_eq_true h.2.1
      have : (Int.ofNat a - Int.ofNat b) = ((Nat.sub a b : Nat) : Int) := by
        show (a : Int) - (b : Int) = ((a - b : Nat) : Int)
        omega
      rw [this, wrap_small h.2.2]; rfl
  · rfl

theorem bits_small {k : IntKind} {a : Nat} (h : Nat.ble a (ktop k) = true) : (BitVec.ofInt k.bits (Int.ofNat a)).toNat = a := by
  have h := Nat.le_of_ble_eq_true h
  show (BitVec.ofInt k.bits (a : Int)).toNat = a
  rw [BitVec.toNat_ofInt]
  cases k <;> simp only [ktop] at h <;> simp only [IntKind.bits] <;> omega

theorem nBits_ok (op : BinOp) (f : Nat → Nat → Nat) (hf : ∀ k a b, Nat.ble a (ktop k) = true → Nat.ble b (ktop k) = true → intBin op k (Int.ofNat a) (Int.ofNat b) = some (.int k (k.wrap (f a b : Nat)))) (ho : op ≠ .shl ∧ op ≠ .shr) (x y : V) : nBits op f x y = binV op x y := by
  unfold nBits
  split
  · rename_i k a k' b
    rw [brec]
    cases h : (Nat.beq (kix k) (kix k') && (Nat.ble (f a b) (ktop k) && (Nat.ble a (ktop k) && Nat.ble b (ktop k))))
    · rfl
    · simp only [Bool.and_eq_true] at h
      have := kix_inj h.1; subst this
      simp only [cond_true, binV]
      split
      · exact absurd rfl ho.1
      · exact absurd rfl ho.2
      · simp only [if_true]
        rw [hf _ _ _ h.2.2.1 h.2.2.2, wrap_small h.2.1]; rfl
  · rfl

theorem nCmp_ok (op : BinOp) (f : Nat → Nat → Bool) (g : List UInt8 → List UInt8 → Option V) (hf : ∀ k a b, intBin op k (Int.ofNat a) (Int.ofNat b) = some (.bool (f a b))) (hg : ∀ a b, g a b = strBin op a b) (ho : op ≠ .shl ∧ op ≠ .shr) (x y : V) : nCmp op f g x y = binV op x y := by
  unfold nCmp
  split
  · rename_i k a k' b
    rw [brec]
    cases h : Nat.beq (kix k) (kix k')
    · rfl
    · have := kix_inj h; subst this
      simp only [cond_true, binV]
      split
      · exact absurd rfl ho.1
      · exact absurd rfl ho.2
      · simp only [if_true]
        rw [hf]
  · exact hg _ _
  · rfl

theorem nShl_ok (x y : V) : nShl x y = binV .shl x y := by
  unfold nShl
  split
  · rename_i k a k' b
    rw [brec]
    cases h : (Nat.ble b 63 && (Nat.ble (Nat.shiftLeft a b) (ktop k) && Nat.ble b k.bits))
    · rfl
    · simp only [Bool.and_eq_true] at h
      have hb := Nat.le_of_ble_eq_true h.2.2
      simp only [cond_true, binV, shiftBin]
      have h0 : ¬ (Int.ofNat b < 0) := by show ¬ ((b : Int) < 0); omega
      rw [if_neg h0]
      have hm : min (Int.ofNat b).toNat k.bits = b := by show min b k.bits = b; omega
      have : (Int.ofNat a * 2 ^ b : Int) = ((Nat.shiftLeft a b : Nat) : Int) := by
        show (a : Int) * 2 ^ b = ((a <<< b : Nat) : Int)
        rw [Nat.shiftLeft_eq]; push_cast; rfl
      rw [hm, this, wrap_small h.2.1]; rfl
  · rfl

theorem nShr_ok (x y : V) : nShr x y = binV .shr x y := by
  unfold nShr
  split
  · rename_i k a k' b
    rw [brec]
    cases h : Nat.ble b k.bits
    · rfl
    · have hb := Nat.le_of_ble_eq_true h
      simp only [cond_true, binV, shiftBin]
      have h0 : ¬ (Int.ofNat b < 0) := by show ¬ ((b : Int) < 0); omega
      rw [if_neg h0]
      have hm : min (Int.ofNat b).toNat k.bits = b := by show min b k.bits = b; omega
      rw [hm]
      have : (Int.fdiv (Int.ofNat a) (2 ^ b)) = ((Nat.shiftRight a b : Nat) : Int) := by
        show Int.fdiv (a : Int) (2 ^ b) = ((a >>> b : Nat) : Int)
        rw [Nat.shiftRight_eq_div_pow]
        rw [Int.fdiv_eq_ediv_of_nonneg _ (Int.le_of_lt (Int.pow_pos (by decide)))]
        exact (Int.natCast_ediv a (2 ^ b)).trans (by rw [Int.natCast_pow]; rfl) |>.symm
      rw [this]; rfl
  · rfl

theorem fbin_eq (op : BinOp) (x y : V) : fbin op x y = binV op x y := by
  cases op
  case add => exact nArith_ok .add Nat.add (fun _ _ _ => rfl) (by decide) x y
  case mul => exact nArith_ok .mul Nat.mul (fun _ _ _ => rfl) (by decide) x y
  case sub => exact nSub_ok x y
  case shl => exact nShl_ok x y
  case shr => exact nShr_ok x y
  case and => exact nBits_ok .and Nat.land (fun k a b ha hb => by simp only [intBin, BitVec.toNat_and, bits_small ha, bits_small hb]; rfl) (by decide) x y
  case or => exact nBits_ok .or Nat.lor (fun k a b ha hb => by simp only [intBin, BitVec.toNat_or, bits_small ha, bits_small hb]; rfl) (by decide) x y
  case xor => exact nBits_ok .xor Nat.xor (fun k a b ha hb => by simp only [intBin, BitVec.toNat_xor, bits_small ha, bits_small hb]; rfl) (by decide) x y
  case eql => exact nCmp_ok .eql _ _ (fun k a b => by simp only [intBin]; congr 2; rw [Bool.eq_iff_iff]; simp [Int.ofNat_inj]) (fun a b => by simp only [strBin, beqL_eq]) (by decide) x y
  case neq => exact nCmp_ok .neq _ _ (fun k a b => by simp only [intBin, bne]; congr 2; cases h : Nat.beq a b with
    | true => have := Nat.eq_of_beq_eq_true h; subst this; simp
    | false =>
      have h2 : ¬ a = b := Nat.ne_of_beq_eq_false h
      have h3 : ¬ (Int.ofNat a = Int.ofNat b) := fun e => h2 (Int.ofNat.inj e)
      simp only [beq_eq_false_iff_ne.2 h3]) (fun a b => by simp only [strBin, beqL_eq]) (by decide) x y
  case lss => exact nCmp_ok .lss _ _ (fun k a b => by simp only [intBin]; congr 2; rw [Bool.eq_iff_iff]; simp [Nat.blt_eq]) (fun a b => rfl) (by decide) x y
  case leq => exact nCmp_ok .leq _ _ (fun k a b => by simp only [intBin]; congr 2; rw [Bool.eq_iff_iff]; simp) (fun a b => rfl) (by decide) x y
  case gtr => exact nCmp_ok .gtr _ _ (fun k a b => by simp only [intBin]; congr 2; rw [Bool.eq_iff_iff]; simp [Nat.blt_eq]) (fun a b => rfl) (by decide) x y
  case geq => exact nCmp_ok .geq _ _ (fun k a b => by simp only [intBin]; congr 2; rw [Bool.eq_iff_iff]; simp) (fun a b => rfl) (by decide) x y
  all_goals rfl

end
end Ab

/-  The abstract machine once more, in a form that Lean's kernel reckons fast: operations, code, runs. -/
namespace Ab
noncomputable section
open Go (IntKind BinOp UnOp)

abbrev Rr := Option Out

/-- What comes behind an operation. -/
def dv (k p : V → St → Rr) : Option OR → Rr
  | some (.val v s) => k v s
  | some (.pan v s) => p v s
  | none => none

/-! Values and states are reckoned to the end, before anything goes on. -/
def fNat (n : Nat) (c : Nat → Rr) : Rr := Nat.rec (c 0) (fun m _ => c (Nat.succ m)) n
theorem fNat_eq (n : Nat) (c : Nat → Rr) : fNat n c = c n := by cases n <;> rfl
def fInt (n : Int) (c : Int → Rr) : Rr := Int.rec (fun m => fNat m fun m => c (.ofNat m)) (fun m => fNat m fun m => c (.negSucc m)) n
theorem fInt_eq (n : Int) (c : Int → Rr) : fInt n c = c n := by
  cases n
  · exact fNat_eq _ fun m => c (.ofNat m)
  · exact fNat_eq _ fun m => c (.negSucc m)
def fBool (b : Bool) (c : Bool → Rr) : Rr := Bool.rec (c false) (c true) b
theorem fBool_eq (b : Bool) (c : Bool → Rr) : fBool b c = c b := by cases b <;> rfl
def fByte (u : UInt8) (c : UInt8 → Rr) : Rr := fNat u.toNat fun n => c (UInt8.ofNat n)
theorem fByte_eq (u : UInt8) (c : UInt8 → Rr) : fByte u c = c u := by
  show fNat u.toNat _ = _
  rw [fNat_eq, UInt8.ofNat_toNat]
def fList {α : Type} (f : α → (α → Rr) → Rr) (l : List α) : (List α → Rr) → Rr := List.rec (fun c => c []) (fun a _ ih c => f a fun a => ih fun l => c (a :: l)) l
theorem fList_eq {α : Type} {f : α → (α → Rr) → Rr} (hf : ∀ a c, f a c = c a) : ∀ (l : List α) (c : List α → Rr), fList f l c = c l
  | [], _ => rfl
  | a :: l, c => by
    show f a (fun a => fList f l fun l => c (a :: l)) = _
    rw [hf, fList_eq hf l]
def fV : V → (V → Rr) → Rr := V.rec (motive_1 := fun _ => (V → Rr) → Rr) (motive_2 := fun _ => (List V → Rr) → Rr)
  (fun c => c .undef) (fun c => c .top) (fun b c => fBool b fun b => c (.bool b)) (fun k n c => fInt n fun n => c (.int k n)) (fun k n c => fNat n fun n => c (.flt k n)) (fun s c => fList fByte s fun s => c (.str s))
  (fun c => c .nilp) (fun h o c => fNat h fun h => fNat o fun o => c (.ptr h o)) (fun h v i n o c => fNat h fun h => fNat v fun v => fNat i fun i => fNat n fun n => fNat o fun o => c (.gptr h v i n o))
  (fun _ ih c => ih fun l => c (.ro l)) (fun x _ ih c => fBool x fun x => ih fun l => c (.sl x l)) (fun h v o l c => fNat h fun h => fNat v fun v => fNat o fun o => fNat l fun l => c (.gs h v o l)) (fun h c => fNat h fun h => c (.map h)) (fun c => c .nilmap)
  (fun f _ _ iha ihb c => iha fun a => ihb fun b => c (.fn f a b)) (fun c => c .nilfn) (fun t _ ih c => ih fun v => c (.iface t v)) (fun c => c .nili) (fun _ ih c => ih fun l => c (.agg l)) (fun _ ih c => ih fun l => c (.tup l))
  (fun c => c []) (fun _ _ ihv ihl c => ihv fun v => ihl fun l => c (v :: l))
theorem fV_eq (v : V) : ∀ c, fV v c = c v := by
  refine V.rec (motive_1 := fun v => ∀ c, fV v c = c v) (motive_2 := fun l => ∀ c : List V → Rr, (V.rec_1 (motive_1 := fun _ => (V → Rr) → Rr) (motive_2 := fun _ => (List V → Rr) → Rr)
  (fun c => c .undef) (fun c => c .top) (fun b c => fBool b fun b => c (.bool b)) (fun k n c => fInt n fun n => c (.int k n)) (fun k n c => fNat n fun n => c (.flt k n)) (fun s c => fList fByte s fun s => c (.str s))
  (fun c => c .nilp) (fun h o c => fNat h fun h => fNat o fun o => c (.ptr h o)) (fun h v i n o c => fNat h fun h => fNat v fun v => fNat i fun i => fNat n fun n => fNat o fun o => c (.gptr h v i n o))
  (fun _ ih c => ih fun l => c (.ro l)) (fun x _ ih c => fBool x fun x => ih fun l => c (.sl x l)) (fun h v o l c => fNat h fun h => fNat v fun v => fNat o fun o => fNat l fun l => c (.gs h v o l)) (fun h c => fNat h fun h => c (.map h)) (fun c => c .nilmap)
  (fun f _ _ iha ihb c => iha fun a => ihb fun b => c (.fn f a b)) (fun c => c .nilfn) (fun t _ ih c => ih fun v => c (.iface t v)) (fun c => c .nili) (fun _ ih c => ih fun l => c (.agg l)) (fun _ ih c => ih fun l => c (.tup l))
  (fun c => c []) (fun _ _ ihv ihl c => ihv fun v => ihl fun l => c (v :: l)) l : (List V → Rr) → Rr) c = c l) ?_ ?_ ?_ ?_ ?_ ?_ ?_ ?_ ?_ ?_ ?_ ?_ ?_ ?_ ?_ ?_ ?_ ?_ ?_ ?_ ?_ ?_ v
  case refine_1 | refine_2 | refine_7 | refine_14 | refine_16 | refine_18 | refine_21 => intro c; rfl
  case refine_3 => intro b c; exact fBool_eq b fun b => c (.bool b)
  case refine_4 => intro k n c; exact fInt_eq n fun n => c (.int k n)
  case refine_5 => intro k n c; exact fNat_eq n fun n => c (.flt k n)
  case refine_6 => intro s c; exact fList_eq fByte_eq s fun s => c (.str s)
  case refine_8 => intro h o c; refine (fNat_eq h fun h => fNat o fun o => c (.ptr h o)).trans ?_; exact fNat_eq o fun o => c (.ptr h o)
  case refine_9 => intro h v i n o c; show (fNat h fun h => fNat v fun v => fNat i fun i => fNat n fun n => fNat o fun o => c (.gptr h v i n o)) = _; simp only [fNat_eq]
  case refine_10 => intro l ih c; exact ih fun l => c (.ro l)
  case refine_11 => intro x l ih c; cases x; (· exact ih fun l => c (.sl false l)); (· exact ih fun l => c (.sl true l))
  case refine_12 => intro h v o l c; show (fNat h fun h => fNat v fun v => fNat o fun o => fNat l fun l => c (.gs h v o l)) = _; simp only [fNat_eq]
  case refine_13 => intro h c; exact fNat_eq h fun h => c (.map h)
  case refine_15 => intro f a b iha ihb c; refine (iha fun a => _).trans ?_; exact ihb fun b => c (.fn f a b)
  case refine_17 => intro t v ih c; exact ih fun v => c (.iface t v)
  case refine_19 => intro l ih c; exact ih fun l => c (.agg l)
  case refine_20 => intro l ih c; exact ih fun l => c (.tup l)
  case refine_22 => intro v l ihv ihl c; refine (ihv fun v => _).trans ?_; exact ihl fun l => c (v :: l)
def fPair (p : V × V) (c : V × V → Rr) : Rr := fV p.1 fun a => fV p.2 fun b => c (a, b)
theorem fPair_eq (p : V × V) (c : V × V → Rr) : fPair p c = c p := by unfold fPair; rw [fV_eq, fV_eq]
def fObj : Obj → (Obj → Rr) → Rr := Obj.rec (fun c => c .dead) (fun t cs c => fNat t fun t => fList fV cs fun cs => c (.box t cs)) (fun a n c => fBool a fun a => fNat n fun n => c (.nilg a n))
  (fun t v a n r c => fNat t fun t => fNat v fun v => fBool a fun a => fNat n fun n => fList (fList fV) r fun r => c (.grow t v a n r)) (fun es c => fList fPair es fun es => c (.map es))
theorem fObj_eq (o : Obj) (c : Obj → Rr) : fObj o c = c o := by
  cases o with
  | dead => rfl
  | box t cs =>
    show (fNat t fun t => fList fV cs fun cs => c (.box t cs)) = _
    rw [fNat_eq, fList_eq fV_eq]
  | nilg a n =>
    show (fBool a fun a => fNat n fun n => c (.nilg a n)) = _
    rw [fBool_eq, fNat_eq]
  | grow t v a n r =>
    show (fNat t fun t => fNat v fun v => fBool a fun a => fNat n fun n => fList (fList fV) r fun r => c (.grow t v a n r)) = _
    rw [fNat_eq, fNat_eq, fBool_eq, fNat_eq, fList_eq (fList_eq fV_eq)]
  | map es =>
    show (fList fPair es fun es => c (.map es)) = _
    rw [fList_eq fPair_eq]
def fSt (s : St) (c : St → Rr) : Rr := fList fObj s c
theorem fSt_eq (s : St) (c : St → Rr) : fSt s c = c s := fList_eq fObj_eq s c
/-- Value and state. -/
def kB (k : V → St → Rr) (v : V) (s : St) : Rr := fV v fun v => fSt s fun s => k v s
theorem kB_eq (k : V → St → Rr) : kB k = k := by funext v s; unfold kB; rw [fV_eq, fSt_eq]
/-- The value alone. -/
def kV (k : V → St → Rr) (v : V) (s : St) : Rr := fV v fun v => k v s
theorem kV_eq (k : V → St → Rr) : kV k = k := by funext v s; unfold kV; rw [fV_eq]

abbrev InsT := Calls → Env → St → (V → St → Rr) → (V → St → Rr) → Rr
def iOld (i : Ins) : InsT := fun K e s k p => dv (kB k) (kB p) (insV K e s i)
def iPure (i : Ins) : InsT := fun K e s k p => dv (kV k) p (insV K e s i)
theorem iOld_eq (i : Ins) (K : Calls) (e : Env) (s : St) (k p : V → St → Rr) : iOld i K e s k p = dv k p (insV K e s i) := by unfold iOld; rw [kB_eq, kB_eq]
theorem iPure_eq (i : Ins) (K : Calls) (e : Env) (s : St) (k p : V → St → Rr) : iPure i K e s k p = dv k p (insV K e s i) := by unfold iPure; rw [kV_eq]
def optK (s : St) (k : V → St → Rr) (o : Option V) : Rr := Option.rec none (fun v => k v s) o

theorem optK_eq (s : St) (k p : V → St → Rr) (o : Option V) : optK s k o = dv k p (pureOp s o) := by cases o <;> rfl

def iMv (x : Opd) : InsT := fun _ e s k _ => k (oget x e) s
def pickV (c a b : V) : Option V := match c with
  | .bool t => some (Bool.rec b a t)
  | _ => none
def iPick (c a b : Opd) : InsT := fun _ e s k _ => optK s k (pickV (oget c e) (oget a e) (oget b e))
def iBin (op : BinOp) (x y : Opd) : InsT := fun _ e s k _ => optK s (kV k) (fbin op (oget x e) (oget y e))
def iUn (op : UnOp) (x : Opd) : InsT := fun _ e s k _ => optK s (kV k) (unV op (oget x e))
def iFaddr (n : Nat) (x : Opd) : InsT := fun _ e s k _ => optK s (kV k) (faddrV n (oget x e))
def iNil (x : Opd) : InsT := fun K e s k p => match oget x e with
  | .ptr h o => k (.ptr h o) s
  | _ => dv k p (insV K e s (.nilCheck x))
def iIface (t : Nat) (x : Opd) : InsT := fun _ e s k _ => k (.iface t (oget x e)) s
def extV (i : Nat) (x : V) : Option V := match x with
  | .tup vs => vs[i]?
  | _ => none
def iExtract (i : Nat) (x : Opd) : InsT := fun _ e s k _ => optK s k (extV i (oget x e))
/-- One cell. -/
def cellAt (cs : List V) (off : Nat) : Option V := List.rec (fun _ => none) (fun v _ ih n => Nat.rec (some v) (fun m _ => ih m) n) cs off
theorem cellAt_eq : ∀ (cs : List V) (off : Nat), cellAt cs off = cs[off]?
  | [], _ => rfl
  | _ :: _, 0 => rfl
  | v :: cs, n + 1 => by
    show cellAt cs n = _
    rw [cellAt_eq cs n]; rfl
def ldV (s : St) (a : V) : Option V := match a with
  | .ptr h off => match St.at s h with
    | .box _ cs => cellAt cs off
    | _ => (loadN s a 1).bind fun cs => cs[0]?
  | _ => (loadN s a 1).bind fun cs => cs[0]?
theorem ldV_eq (s : St) (a : V) : ldV s a = (loadN s a 1).bind fun cs => cs[0]? := by
  cases a <;> try rfl
  rename_i h off
  simp only [ldV, loadN]
  cases hat : St.at s h <;> try rfl
  rename_i ty cs
  simp only [takeN, cellAt_eq]
  by_cases hl : off + 1 ≤ cs.length
  · rw [if_pos hl]
    simp only [Option.bind_some]
    rw [List.getElem?_take]; simp
  · rw [if_neg hl, List.getElem?_eq_none (by omega)]; rfl
def iLoad (ag : Bool) (n : Nat) (a : Opd) : InsT := fun K e s k p => Bool.rec (Bool.rec (dv (kV k) p (insV K e s (.load ag n a))) (optK s k (ldV s (oget a e))) (Nat.beq n 1)) (dv (kV k) p (insV K e s (.load ag n a))) ag
def idxF (j : Int) (n : Nat) : Option Nat := match j with
  | .ofNat m => Bool.rec none (some m) (Nat.blt m n)
  | .negSucc _ => none
def indexV (x i : V) : Option V := match x, i with
  | .str b, .int _ (.ofNat j) => (b[j]?).map fun c => V.int .u8 (.ofNat c.toNat)
  | _, _ => none
def iIndex (x i : Opd) : InsT := fun _ e s k _ => optK s (kV k) (indexV (oget x e) (oget i e))

def flat : V → Bool
  | .bool _ | .int .. | .flt .. | .str _ | .nilp | .nilmap | .nilfn | .nili => true
  | _ => false
def flats (vs : List V) : Bool := List.rec true (fun v _ ih => Bool.rec false ih (flat v)) vs

theorem flat_pure {v : V} (h : flat v = true) : v.pure = true ∧ v.forget = v := by
  cases v <;> first | (cases h; done) | (constructor <;> (first | simp [V.pure] | simp [V.forget]))
theorem flats_pure : ∀ {vs : List V}, flats vs = true → V.pures vs = true ∧ V.forgets vs = vs
  | [], _ => by constructor <;> simp [V.pures, V.forgets]
  | v :: vs, h => by
    have h' : (bif flat v then flats vs else false) = true := by rw [← brec]; exact h
    cases hv : flat v with
    | false => rw [hv] at h'; cases h'
    | true =>
      rw [hv] at h'
      have h1 := flat_pure hv
      have h2 := flats_pure h'
      constructor
      · rw [V.pures, h1.1, h2.1]; rfl
      · rw [V.forgets, h1.2, h2.2]

/-- What comes back of a call that sees nothing of ours. -/
def backC (s : St) (k p : V → St → Rr) : Option Out → Rr
  | some (.ret v s') => Bool.rec (dv (kV k) p ((snap s' spClosed snapDepth v).map (.val · s))) (kV k v s) (flat v)
  | some (.pan v s') => dv k p ((snap s' spClosed snapDepth v).map (.pan · s))
  | none => none

/-- A call whose arguments are reckoned to the end first: so the same call is the same term. -/
def fK (K : Calls) : Calls := fun f args s => fList fV args fun args => fSt s fun s => K f args s
theorem fK_eq (K : Calls) : fK K = K := by funext f args s; unfold fK; rw [fList_eq fV_eq, fSt_eq]

def fcall (K : Calls) (m : CM) (f : Nat) (args : List V) (s : St) (k p : V → St → Rr) : Rr :=
  CM.rec (Bool.rec (dv (kV k) p (callAs (fK K) .closed f args s)) (backC s k p (fK K f args [])) (flats args)) (dv (kB k) (kB p) (callAs (fK K) .drop f args s)) (dv (kB k) (kB p) (callAs (fK K) .keep f args s)) m

theorem snap_flat {s : St} {v : V} (h : flat v = true) : snap s spClosed snapDepth v = some v := by
  have := flat_pure h
  show snap s spClosed (39 + 1) v = some v
  unfold snap
  rw [this.1, cond_true]
  show some v.forget = _
  rw [this.2]

theorem backC_eq (s : St) (k p : V → St → Rr) (o : Option Out) : backC s k p o = dv k p (match o with
    | some (.ret v s') => (snap s' spClosed snapDepth v).map (.val · s)
    | some (.pan v s') => (snap s' spClosed snapDepth v).map (.pan · s)
    | none => none) := by
  rcases o with _ | (⟨v, s'⟩ | ⟨v, s'⟩)
  · rfl
  · simp only [backC, kV_eq]
    cases h : flat v
    · rfl
    · simp only [snap_flat h]; rfl
  · rfl

theorem fcall_eq (K : Calls) (m : CM) (f : Nat) (args : List V) (s : St) (k p : V → St → Rr) : fcall K m f args s k p = dv k p (callAs K m f args s) := by
  cases m
  · rw [show fcall K CM.closed f args s k p = (Bool.rec (motive := fun _ => Rr) (dv (kV k) p (callAs (fK K) .closed f args s)) (backC s k p (fK K f args [])) (flats args)) from rfl, brec, kV_eq, fK_eq]
    cases h : flats args
    · rfl
    · have h1 := flats_pure h
      show backC s k p (K f args []) = _
      rw [backC_eq]
      simp only [callAs, closedCall, h1.1, h1.2, cond_true]
      rfl
  · show dv (kB k) (kB p) (callAs (fK K) _ f args s) = _
    rw [kB_eq, kB_eq, fK_eq]
  · show dv (kB k) (kB p) (callAs (fK K) _ f args s) = _
    rw [kB_eq, kB_eq, fK_eq]

def iCall (m : CM) (f : Nat) (args : List Opd) : InsT := fun K e s k p => fcall K m f (ogets args e) s k p
def callvF (K : Calls) (m : CM) (g : V) (args : List V) (s : St) (k p : V → St → Rr) : Rr := match g with
  | .fn g first cap => fcall K m g (first ++ args ++ cap) s k p
  | _ => none
def iCallv (m : CM) (f : Opd) (args : List Opd) : InsT := fun K e s k p => callvF K m (oget f e) (ogets args e) s k p

def fins : Ins → InsT := Ins.rec iMv iPick (fun t z g => iOld (.alloc t z g)) (fun t x g => iOld (.box t x g)) (fun a n => iOld (.nilS a n)) (fun z p => iPure (.build z p)) (fun n z p => iPure (.lit n z p)) iLoad (fun n a x => iOld (.store n a x)) iNil iBin
  (fun n k x y => iPure (.eq n k x y)) iUn (fun k x => iPure (.conv k x)) iIface (fun f a b => iPure (.mkFn f a b)) (fun t n x => iOld (.uns t n x)) (fun x => iOld (.sdata x)) (fun t x n => iOld (.ustr t x n)) (fun t n x a b c => iPure (.slc t n x a b c)) iFaddr
  (fun a o n x => iPure (.field a o n x)) (fun n x i => iPure (.iaddr n x i)) (fun l n x i => iPure (.aaddr l n x i)) iIndex (fun l a n x i => iPure (.aindex l a n x i)) (fun t z x => iPure (.tassert t z x)) iExtract (fun t x => iPure (.len t x)) (fun t a n x y => iOld (.append t a n x y))
  (fun m x y => iPure (.minmax m x y)) iCall iCallv (fun x => iOld (.panic x))

theorem fins_eq (i : Ins) (K : Calls) (e : Env) (s : St) (k p : V → St → Rr) : fins i K e s k p = dv k p (insV K e s i) := by
  cases i
  case mv x => show k (oget x e) s = _; rw [oget_eq]; rfl
  case pick c a b =>
    show optK s k (pickV (oget c e) (oget a e) (oget b e)) = _
    simp only [oget_eq, insV]
    cases c.get e <;> simp only [pickV, optK, dv]
    rename_i t; cases t <;> rfl
  case bin op x y =>
    show optK s (kV k) (fbin op (oget x e) (oget y e)) = _
    rw [kV_eq, optK_eq s k p, fbin_eq, oget_eq, oget_eq]; rfl
  case un op x =>
    show optK s (kV k) (unV op (oget x e)) = _
    rw [kV_eq, optK_eq s k p, oget_eq]; rfl
  case faddr n x =>
    show optK s (kV k) (faddrV n (oget x e)) = _
    rw [kV_eq, optK_eq s k p, oget_eq]; rfl
  case nilCheck x =>
    show iNil x K e s k p = _
    unfold iNil
    split
    · rename_i h o hx
      rw [oget_eq] at hx
      simp only [insV, hx, dv]
    · rfl
  case mkIface t x => show k (.iface t (oget x e)) s = _; rw [oget_eq]; rfl
  case extract i x =>
    show optK s k (extV i (oget x e)) = _
    rw [oget_eq]
    simp only [insV]
    cases x.get e <;> simp only [extV] <;> first | rfl | exact optK_eq s k p _
  case load ag n a =>
    show iLoad ag n a K e s k p = _
    unfold iLoad
    rw [kV_eq]
    cases ag with
    | true => rfl
    | false =>
      cases h : Nat.beq n 1 with
      | false => rfl
      | true =>
        have := Nat.eq_of_beq_eq_true h; subst this
        show optK s k (ldV s (oget a e)) = _
        rw [oget_eq, optK_eq s k p]
        simp only [insV]
        rw [ldV_eq]
        cases loadN s (a.get e) 1 with
        | none => rfl
        | some cs => rfl
  case index x i =>
    show optK s (kV k) (indexV (oget x e) (oget i e)) = _
    rw [kV_eq, oget_eq, oget_eq, optK_eq s k p]
    simp only [insV]
    cases x.get e <;> try (simp only [indexV]; rfl)
    rename_i b
    cases i.get e <;> try (simp only [indexV]; rfl)
    rename_i kk j
    cases j with
    | ofNat m =>
      have h0 : (0 : Int) ≤ Int.ofNat m := Int.natCast_nonneg m
      simp only [indexV, h0, if_true]
      have : (Int.ofNat m).toNat = m := rfl
      rw [this]
      cases b[m]? <;> rfl
    | negSucc m =>
      have h0 : ¬ ((0 : Int) ≤ Int.negSucc m) := by omega
      simp only [indexV, h0, if_false]; rfl
  case call m f args =>
    show fcall K m f (ogets args e) s k p = _
    rw [fcall_eq, ogets_eq]; rfl
  case callv m f args =>
    show callvF K m (oget f e) (ogets args e) s k p = _
    rw [oget_eq, ogets_eq]
    simp only [insV]
    cases f.get e <;> simp only [callvF] <;> first | exact fcall_eq _ _ _ _ _ _ _ | rfl
  all_goals first
    | exact iOld_eq _ K e s k p
    | exact iPure_eq _ K e s k p

/-! rows of operations -/
def gNone : Option Bool → Rr → Rr → Rr := Option.rec (fun _ _ => none) (fun b a c => Bool.rec c a b)
def gAsk (v : V) (w : Bool) : Option Bool := match v with
  | .bool b => some (Bool.rec (not w) w b)
  | .undef => some false
  | _ => none
def fput (d : Option Nat) (v : V) (e : Env) : Env := Option.rec e (fun d => (d, v) :: e) d
theorem fput_eq (d : Option Nat) (v : V) (e : Env) : fput d v e = e.put d v := by cases d <;> rfl

def fops (os : List IOp) : Calls → Env → St → (Env → St → Rr) → (V → St → Rr) → Rr :=
  List.rec (fun _ e s k _ => k e s)
    (fun o _ ih => IOp.rec (fun d g i => Option.rec (fun K e s k p => fins i K e s (fun v s' => ih K (fput d v e) s' k p) p)
      (fun jw K e s k p => gNone (gAsk (fget e jw.1) jw.2) (fins i K e s (fun v s' => ih K (fput d v e) s' k p) p) (ih K (fput d .undef e) s k p)) g) o) os

/-- What comes behind a row or a piece of code. -/
def dr (k : Env → St → Rr) (x : Nat → Env → St → Rr) (r : Env → St → Rr) (p : V → St → Rr) : Option (Ex × Env × St) → Rr
  | some (.nxt, e, s) => k e s
  | some (.exit j, e, s) => x j e s
  | some (.ret, e, s) => r e s
  | some (.pan v, _, s) => p v s
  | none => none

theorem gAsk_eq (e : Env) (j : Nat) (w : Bool) : gAsk (fget e j) w = wanted e (some (j, w)) := by
  rw [fget_eq]
  simp only [wanted]
  cases e.get j <;> simp only [gAsk]
  rename_i b; cases b <;> cases w <;> rfl

theorem fops_eq : ∀ (os : List IOp) (K : Calls) (e : Env) (s : St) (k : Env → St → Rr) (x : Nat → Env → St → Rr) (r : Env → St → Rr) (p : V → St → Rr), fops os K e s k p = dr k x r p (ops K os e s)
  | [], K, e, s, k, x, r, p => rfl
  | ⟨d, g, i⟩ :: os, K, e, s, k, x, r, p => by
    have h1 : fins i K e s (fun v s' => fops os K (fput d v e) s' k p) p = dr k x r p (match insV K e s i with
        | some (.val v s') => ops K os (e.put d v) s'
        | some (.pan v s') => some (.pan v, e, s')
        | none => none) := by
      rw [fins_eq]
      rcases insV K e s i with _ | (⟨v, s'⟩ | ⟨v, s'⟩)
      · rfl
      · simp only [dv, fput_eq]; exact fops_eq os K _ _ k x r p
      · rfl
    cases g with
    | none =>
      show fins i K e s (fun v s' => fops os K (fput d v e) s' k p) p = _
      rw [h1]; rfl
    | some jw =>
      obtain ⟨j, w⟩ := jw
      show gNone (gAsk (fget e j) w) (fins i K e s (fun v s' => fops os K (fput d v e) s' k p) p) (fops os K (fput d .undef e) s k p) = _
      rw [gAsk_eq, h1, fput_eq, fops_eq os K _ _ k x r p]
      simp only [ops]
      rcases wanted e (some (j, w)) with _ | (_ | _) <;> rfl

/-! code -/
abbrev LoopsF := List Nat → C → Env → St → (Nat → Env → St → Rr) → (Env → St → Rr) → (V → St → Rr) → Rr
def condF (v : V) (a b : Rr) : Rr := match v with
  | .bool t => Bool.rec b a t
  | _ => none

def fev (c : C) : Calls → LoopsF → Env → St → (Env → St → Rr) → (Nat → Env → St → Rr) → (Env → St → Rr) → (V → St → Rr) → Rr :=
  C.rec (fun _ _ e s k _ _ _ => k e s)
    (fun os K _ e s k _ _ p => fops os K e s k p)
    (fun ds os oss K _ e s k x r p => dr (fun e s => fSt s fun s => k e s) x r p (drawn ds (ops (fK K) os e s) (oss.map fun o => ops (fK K) o e s)))
    (fun _ _ iha ihb K L e s k x r p => iha K L e s (fun e' s' => ihb K L e' s' k x r p) x r p)
    (fun c _ _ iha ihb K L e s k x r p => condF (oget c e) (iha K L e s k x r p) (ihb K L e s k x r p))
    (fun id _ ih K L e s k x r p => ih K L e s k (fun j e' s' => Bool.rec (x j e' s') (k e' s') (Nat.beq j id)) r p)
    (fun live b _ _ L e s _ x r p => L live b (fmask live e) s x r p)
    (fun id _ _ e s _ x _ _ => x id e s)
    (fun _ _ e s _ _ r _ => r e s) c

theorem fev_eq {K : Calls} {L' : LoopsF} {L : Loops} (hL : ∀ live b e s k x r p, L' live b e s x r p = dr k x r p (L live b e s)) : ∀ (c : C) e s k x r p, fev c K L' e s k x r p = dr k x r p (ev K L c e s) := by
  intro c
  induction c with
  | skip => intro e s k x r p; rfl
  | reg os => intro e s k x r p; exact fops_eq os K e s k x r p
  | draw ds os oss =>
    intro e s k x r p
    show dr (fun e s => fSt s fun s => k e s) x r p (drawn ds (ops (fK K) os e s) (oss.map fun o => ops (fK K) o e s)) = _
    simp only [fSt_eq, fK_eq]
    rfl
  | seq a b iha ihb =>
    intro e s k x r p
    show fev a K L' e s (fun e' s' => fev b K L' e' s' k x r p) x r p = _
    rw [iha]
    simp only [ev]
    rcases ev K L a e s with _ | ⟨_ | _ | _ | _, e', s'⟩
    · rfl
    · exact ihb _ _ _ _ _ _
    all_goals rfl
  | cond c a b iha ihb =>
    intro e s k x r p
    show condF (oget c e) (fev a K L' e s k x r p) (fev b K L' e s k x r p) = _
    rw [oget_eq, iha, ihb]
    simp only [ev]
    cases c.get e <;> simp only [condF] <;> first | rfl | skip
    rename_i t; cases t <;> rfl
  | blk id b ih =>
    intro e s k x r p
    show fev b K L' e s k (fun j e' s' => Bool.rec (x j e' s') (k e' s') (Nat.beq j id)) r p = _
    rw [ih]
    simp only [ev]
    rcases ev K L b e s with _ | ⟨_ | j | _ | _, e', s'⟩
    · rfl
    · rfl
    · simp only [dr]
      by_cases h : j = id
      · subst h; simp
      · have : Nat.beq j id = false := by
          cases hb : Nat.beq j id
          · rfl
          · exact absurd (Nat.eq_of_beq_eq_true hb) h
        rw [this, if_neg h]
    all_goals rfl
  | loop live b _ =>
    intro e s k x r p
    show L' live b (fmask live e) s x r p = _
    rw [hL live b _ _ k, fmask_eq]; rfl
  | exit id => intro e s k x r p; rfl
  | ret => intro e s k x r p; rfl

def finF (rs : List ResV) (e : Env) (s : St) : Rr := match resOf e s rs with
  | some v => some (.ret v s)
  | none => none
def noX : Nat → Env → St → Rr := fun _ _ _ => none
def panF : V → St → Rr := fun v s => some (.pan v s)

def fbody (K : Calls) (L : LoopsF) (fn : Fn) (args : List V) (s : St) : Rr :=
  Fn.rec (fun np _ rs b => Bool.rec none (fev b K L (args0 0 args) s (finF rs) noX (finF rs) panF) (Nat.beq args.length np)) fn

theorem fbody_eq {K : Calls} {L' : LoopsF} {L : Loops} (hL : ∀ live b e s k x r p, L' live b e s x r p = dr k x r p (L live b e s)) (fn : Fn) (args : List V) (s : St) : fbody K L' fn args s = body K L fn args s := by
  obtain ⟨np, nt, rs, b⟩ := fn
  rw [show fbody K L' ⟨np, nt, rs, b⟩ args s = (Bool.rec (motive := fun _ => Rr) none (fev b K L' (args0 0 args) s (finF rs) noX (finF rs) panF) (Nat.beq args.length np)) from rfl, brec]
  rw [fev_eq hL]
  simp only [body]
  by_cases h : args.length = np
  · have : Nat.beq args.length np = true := by rw [h]; exact Nat.beq_refl np
    rw [this, if_pos h, cond_true]
    rcases ev K L b (args0 0 args) s with _ | ⟨_ | _ | _ | _, e', s'⟩ <;> rfl
  · have : Nat.beq args.length np = false := by
      cases hb : Nat.beq args.length np
      · rfl
      · exact absurd (Nat.eq_of_beq_eq_true hb) h
    rw [this, if_neg h]; rfl

def fhandle (K : Calls) (L : LoopsF) (g : GFn) (e1 : Env) (caps : List V) (rv : V) (s : St) : Rr :=
  fops g.hops K ((g.hd, rv) :: args0 0 caps) s (fun e s1 => fev g.hrest K L e s1 (fun _ s2 => finF g.res (e1.mask g.prot) s2) noX (fun _ s2 => finF g.res (e1.mask g.prot) s2) (fun _ _ => none)) (fun _ _ => none)

theorem fhandle_eq {K : Calls} {L' : LoopsF} {L : Loops} (hL : ∀ live b e s k x r p, L' live b e s x r p = dr k x r p (L live b e s)) (g : GFn) (e1 : Env) (caps : List V) (rv : V) (s : St) : fhandle K L' g e1 caps rv s = ghandle K L g e1 caps rv s := by
  unfold fhandle ghandle
  rw [fops_eq (x := noX) (r := fun _ _ => none)]
  rcases hx : ops K g.hops ((g.hd, rv) :: args0 0 caps) s with _ | ⟨_ | _ | _ | _, e', s'⟩
  · rfl
  · simp only [dr]
    rw [fev_eq hL]
    rcases ev K L g.hrest e' s' with _ | ⟨_ | _ | _ | _, e2, s2⟩ <;> rfl
  all_goals rfl

def gcall (g : GFn) (v : V) (k : List V → Rr) : Rr := match v with
  | .fn f [] caps => Bool.rec none (k caps) (and (Nat.beq f g.df) (Nat.beq caps.length g.hnp))
  | _ => none
def fguard (K : Calls) (L : LoopsF) (g : GFn) (args : List V) (s : St) : Rr :=
  Bool.rec none (fops g.pre K (args0 0 args) s (fun e0 s0 => fops [g.fnop] K e0 s0 (fun e1 s1 => gcall g (fget e1 g.dt) fun caps =>
    fev g.rest K L e1 s1 (fun _ s2 => fhandle K L g e1 caps .nili s2) noX (fun _ s2 => fhandle K L g e1 caps .nili s2) (fun v s2 => fhandle K L g e1 caps v s2)) (fun _ _ => none)) (fun _ _ => none)) (Nat.beq args.length g.np)

theorem fguard_eq {K : Calls} {L' : LoopsF} {L : Loops} (hL : ∀ live b e s k x r p, L' live b e s x r p = dr k x r p (L live b e s)) (g : GFn) (args : List V) (s : St) : fguard K L' g args s = gbody K L g args s := by
  unfold fguard gbody
  by_cases h : args.length = g.np
  case neg =>
    have : Nat.beq args.length g.np = false := by
      cases hb : Nat.beq args.length g.np
      · rfl
      · exact absurd (Nat.eq_of_beq_eq_true hb) h
    rw [this, if_neg h]
  case pos =>
    have : Nat.beq args.length g.np = true := by rw [h]; exact Nat.beq_refl _
    rw [this, if_pos h]
    show fops g.pre K (args0 0 args) s _ (fun _ _ => none) = _
    rw [fops_eq (x := noX) (r := fun _ _ => none)]
    rcases ops K g.pre (args0 0 args) s with _ | ⟨_ | _ | _ | _, e0, s0⟩ <;> first | rfl | skip
    simp only [dr]
    rw [fops_eq (x := noX) (r := fun _ _ => none)]
    rcases ops K [g.fnop] e0 s0 with _ | ⟨_ | _ | _ | _, e1, s1⟩ <;> first | rfl | skip
    simp only [dr]
    rw [fget_eq]
    cases e1.get g.dt <;> simp only [gcall] <;> try rfl
    rename_i f first caps
    cases first with
    | cons _ _ => rfl
    | nil =>
      simp only
      cases (Nat.beq f g.df && Nat.beq caps.length g.hnp) with
      | false => rfl
      | true =>
        simp only [cond_true]
        rw [fev_eq hL]
        rcases ev K L g.rest e1 s1 with _ | ⟨_ | _ | _ | _, e2, s2⟩ <;> simp only [dr, noX] <;> first | exact fhandle_eq hL _ _ _ _ _ | rfl

def fstep (P : Prog) (K : Calls) (L : LoopsF) : Calls := fun f args s =>
  match P f with
  | some (.code fn) => fbody K L fn args s
  | some (.guard g) => fguard K L g args s
  | some (.prim p) => p args s
  | none => none

def flstep (K : Calls) (L : LoopsF) : LoopsF := fun live b e s x r p => fev b K L e s (fun e' s' => L live b (fmask live e') s' x r p) x r p

def fN (P : Prog) (n : Nat) : Calls × LoopsF := Nat.rec (fun _ _ _ => none, fun _ _ _ _ _ _ _ => none) (fun _ ih => (fstep P ih.1 ih.2, flstep ih.1 ih.2)) n

theorem fN_eq (P : Prog) : ∀ n, (fN P n).1 = (runN P n).1 ∧ ∀ live b e s k x r p, (fN P n).2 live b e s x r p = dr k x r p ((runN P n).2 live b e s)
  | 0 => ⟨rfl, fun _ _ _ _ _ _ _ _ => rfl⟩
  | n + 1 => by
    obtain ⟨h1, h2⟩ := fN_eq P n
    constructor
    · funext f args s
      show fstep P (fN P n).1 (fN P n).2 f args s = step P (runN P n).1 (runN P n).2 f args s
      unfold fstep step
      rw [h1]
      cases P f with
      | none => rfl
      | some x => cases x with
        | code fn => exact fbody_eq h2 fn args s
        | guard g => exact fguard_eq h2 g args s
        | prim p => rfl
    · intro live b e s k x r p
      show fev b (fN P n).1 (fN P n).2 e s (fun e' s' => (fN P n).2 live b (fmask live e') s' x r p) x r p = dr k x r p (lstep (runN P n).1 (runN P n).2 live b e s)
      rw [h1, fev_eq h2]
      unfold lstep
      rcases ev (runN P n).1 (runN P n).2 b e s with _ | ⟨_ | _ | _ | _, e', s'⟩ <;> first | rfl | skip
      simp only [dr]
      rw [h2 live b _ _ k, fmask_eq]; rfl

/-- What the fast form tells holds. -/
theorem run_fast {P : Prog} {n f : Nat} {args : List V} {s : St} {r : Out} (h : (fN P n).1 f args s = some r) : run P f args s = some r := by
  rw [(fN_eq P n).1] at h
  exact run_of h

end
end Ab

/-  What simp is told, to reckon runs of the abstract machine symbol by symbol. -/
namespace Ab
theorem snap_closed {s : St} {v : V} (h : v.pure = true) : snap s spClosed snapDepth v = some v.forget := by
  show snap s spClosed (39 + 1) v = _
  unfold snap
  rw [h, cond_true]; rfl
section
variable (s : St)
theorem pure_bool (b : Bool) : V.pure (.bool b) = true := by simp [V.pure]
theorem pure_int (k : Go.IntKind) (n : Int) : V.pure (.int k n) = true := by simp [V.pure]
theorem pure_flt (k : Go.FloatKind) (n : Nat) : V.pure (.flt k n) = true := by simp [V.pure]
theorem pure_str (b : List UInt8) : V.pure (.str b) = true := by simp [V.pure]
theorem pure_nilp : V.pure .nilp = true := by simp [V.pure]
theorem pure_nili : V.pure .nili = true := by simp [V.pure]
theorem snap_bool (b : Bool) : snap s spClosed snapDepth (.bool b) = some (.bool b) := by rw [snap_closed (pure_bool b)]; simp [V.forget]
theorem snap_int (k : Go.IntKind) (n : Int) : snap s spClosed snapDepth (.int k n) = some (.int k n) := by rw [snap_closed (pure_int k n)]; simp [V.forget]
theorem snap_flt (k : Go.FloatKind) (n : Nat) : snap s spClosed snapDepth (.flt k n) = some (.flt k n) := by rw [snap_closed (pure_flt k n)]; simp [V.forget]
theorem snap_str (b : List UInt8) : snap s spClosed snapDepth (.str b) = some (.str b) := by rw [snap_closed (pure_str b)]; simp [V.forget]
theorem snap_nilp : snap s spClosed snapDepth .nilp = some .nilp := by rw [snap_closed pure_nilp]; simp [V.forget]
theorem snap_tup (vs : List V) (h : V.pures vs = true) : snap s spClosed snapDepth (.tup vs) = some (.tup (V.forgets vs)) := by rw [snap_closed (by rw [V.pure]; exact h)]; rw [V.forget]
theorem snap_agg (vs : List V) (h : V.pures vs = true) : snap s spClosed snapDepth (.agg vs) = some (.agg (V.forgets vs)) := by rw [snap_closed (by rw [V.pure]; exact h)]; rw [V.forget]
theorem snap_sl (x : Bool) (vs : List V) (h : V.pures vs = true) : snap s spClosed snapDepth (.sl x vs) = some (.sl false (V.forgets vs)) := by rw [snap_closed (by rw [V.pure]; exact h)]; rw [V.forget]
end
theorem snap_pureV {s : St} {p : SP} (hf : p.fg = true) {v : V} (h : v.pure = true) : ∀ d, snap s p d v = some v.forget
  | 0 => by unfold snap; rw [h, cond_true, hf]; rfl
  | d + 1 => by unfold snap; rw [h, cond_true, hf]; rfl
theorem mapO_snap {s : St} {p : SP} (hf : p.fg = true) (d : Nat) : ∀ {cs : List V}, V.pures cs = true → mapO (snap s p d) cs = some (V.forgets cs)
  | [], _ => by simp [mapO, V.forgets]
  | c :: cs, h => by
    rw [V.pures, Bool.and_eq_true] at h
    simp only [mapO, snap_pureV hf h.1, mapO_snap hf d h.2, V.forgets]
theorem snap_look {s : St} {h ty off : Nat} {cs : List V} (hat : s.at h = .box ty cs) (hp : V.pures (cs.drop off) = true) : snap s spLook snapDepth (.ptr h off) = some (.ro (V.forgets (cs.drop off))) := by
  have hn : V.pure (.ptr h off) = false := by simp [V.pure]
  show snap s spLook (39 + 1) _ = _
  unfold snap
  rw [hn, cond_false]
  show (match s.at h with
    | .box _ cs => (mapO (snap s spLook 39) (cs.drop off)).map V.ro
    | _ => none) = _
  rw [hat]
  show (mapO (snap s spLook 39) (cs.drop off)).map V.ro = _
  rw [mapO_snap rfl 39 hp]; rfl
theorem pregrow_nil (b : Nat) (cs : List V) : pregrow b [] cs = (cs, []) := by simp [pregrow]
theorem nbeq (a b : Nat) : Nat.beq a b = (a == b) := by rw [Bool.eq_iff_iff]; simp
theorem splice_all : ∀ (pre cs vs : List V), vs.length = cs.length → splice (pre ++ cs) pre.length vs = pre ++ vs
  | pre, [], [], _ => rfl
  | pre, c :: cs, v :: vs, h => by
    have := splice_all (pre ++ [v]) cs vs (by simpa using h)
    simp only [splice]
    simpa using this
/-- A whole box is written over. -/
theorem storeN_box {s : St} {h ty : Nat} {cs vs : List V} (hat : s.at h = .box ty cs) (hl : vs.length = cs.length) (hc : vs.all V.oneCell = true) : storeN s (.ptr h 0) vs = some (s.set h (.box ty vs)) := by
  have := splice_all [] cs vs hl
  simp only [List.nil_append, List.length_nil] at this
  simp only [storeN, hc, if_true, hat, Nat.zero_add, hl, Nat.le_refl, this]
theorem take1 {α : Type} {cs : List α} {c : Nat} {v : α} (h : cs[c]? = some v) : 1 ≤ cs.length - c ∧ (cs.drop c).take 1 = [v] := by
  obtain ⟨hl, rfl⟩ := List.getElem?_eq_some_iff.1 h
  refine ⟨by omega, ?_⟩
  rw [List.drop_eq_getElem_cons hl]; rfl
theorem idx_nat {c n : Nat} (h : c < n) : idx (c : Int) n = some c := by simp [idx]; omega
theorem fin_def (P : Prog) (x : Ex) (e : Env) (s : St) (k : List Fr) : fin P x e s k = after P k (some (x, e, s)) := rfl
attribute [simp ↓] rk_skip rk_reg rk_seq rk_cond rk_blk rk_loop rk_exit rk_ret fin_nil fin_nxt_seq fin_exit_seq fin_ret_seq fin_pan_seq fin_nxt_blk fin_exit_blk fin_ret_blk fin_pan_blk ro_nil ro_cons ro_cons_g rk_draw
attribute [simp] on_val on_val0 on_pan onG_true onG_false onG_false0 onB_bool onL_some onD_some insV Opd.get Env.get Env.mask pureOp args0 wanted binV loadN storeN takeN mkLoad faddrV closedCall callAs V.pures V.pure V.forgets V.forget V.cells V.oneCell splice close resOf resAll ResV.get V.isStr lenV eqV nbeq pregrow_nil pregrow St.at List.getD slcV boundOf unV intBin strBin snap_bool snap_int snap_flt snap_str snap_nilp snap_tup snap_agg snap_sl pure_bool pure_int pure_flt pure_str pure_nilp pure_nili
end Ab
