/- What the functions that 'IsLossy' reaches compute, on data. -/
import Derived.Test.YtioopdicoidmcaaG
set_option linter.all false
set_option linter.unusedSimpArgs false
set_option maxRecDepth 100000
namespace Go.Opt

theorem wrap64 {x : Int} (h1 : -9223372036854775808 ≤ x) (h2 : x < 9223372036854775808) : IntKind.i64.wrap x = x := by
  simp [IntKind.wrap, IntKind.bits, IntKind.signed]
  omega

theorem Cal_ex {D : Table} {f : Nat} {fn : Fn'} {a : List Arg} {p : Res → Prop} (hD : D f = some fn)
    (h : wp D fn.body (fun e s' => ∃ r, finish fn a (some (e, s')) = some r ∧ p r) (init a)) : ∃ r, Cal D f a = some r ∧ p r := by
  obtain ⟨n, e, s', h1, r, h2, h3⟩ := h
  refine ⟨r, (Cal_iff _ _ _ _).2 ⟨n + 1, ?_⟩, h3⟩
  simp only [calN, hD, h1, h2]

def B63 : Nat := 9223372036854775808
def B20 : Nat := 1048577
def okStrs (B : Nat) (r : List (List C)) : Prop := r.length < B ∧ ∀ row ∈ r, ∃ l, row = [.str l] ∧ l.length < B63
def okT (B : Nat) : Nat → List C → Prop
  | 0, _ => False
  | n + 1, cs => ∃ k r1 r3, cs = [.int .i64 k, .sl 1 r1, .sl 3 r3] ∧ okStrs B r1 ∧ r3.length < B ∧ ∀ row ∈ r3, okT B n row
def okV (B : Nat) : Nat → List C → Prop
  | 0, _ => False
  | n + 1, cs => ∃ k m l r1 r5, cs = [.int .i64 k, .int .i64 m, .str l, .sl 1 r1, .sl 5 r5] ∧ l.length < B63 ∧ okStrs B r1 ∧ r5.length < B ∧ ∀ row ∈ r5, okV B n row

/-- A size's result. -/
def Szd (left : Int) (p : Prop) (r : Res) : Prop := ∃ v : Int, r = ⟨.c (.int .i64 v), []⟩ ∧ -1 ≤ v ∧ v ≤ 1048576 ∧ (0 ≤ v → v ≤ left ∧ p)

/-! ### Equal to itself -/
theorem eq72 (r : List (List C)) (h : okStrs B63 r) : Cal D 72 [.c (.sl 1 r), .c (.sl 1 r)] = some ⟨.c (.bool true), []⟩ := by
  obtain ⟨hl, h⟩ := h
  simp only [B63] at hl
  refine Cal_of_wp (fn := q72) rfl ?_
  simp [q72, wp_seq, wp_region, wp_cond, wp_block, wp_ret, wp_skip, wp_exit, wpo_cons, wpo_nil, stepG, step, onSome, X.ev, upd, S.put, S.setB, S.setT, DV.cells, splice, oneOrAgg, binDV, binInt, binStr, unDV, idxOf, evPath, S.cellAt, C.get, fitK, K.mem, C.isSl, toArgs, toArg, layOuts, RV.dv, K.zero, init, initT, initB, extBox]
  refine wp_loop_inv (fun m s => ∃ i : Nat, i + m = r.length ∧ s.t 0 = .c (.sl 1 r) ∧ s.t 1 = .c (.sl 1 r) ∧ s.t 5 = .c (.int .i64 i)) ?_ r.length _ ⟨0, by simp, by simp [upd, initT], by simp [upd, initT], by simp [upd]⟩
  rintro m s ⟨i, hi, h0, h1, h5⟩
  by_cases hm : i < r.length
  · obtain ⟨l, hrow, _⟩ := h r[i] (List.getElem_mem hm)
    have hw : IntKind.i64.wrap ((i : Int) + 1) = (i : Int) + 1 := wrap64 (by omega) (by omega)
    have hm' : (i : Int) < r.length := by omega
    simp [wp_seq, wp_region, wp_cond, wp_block, wp_ret, wp_skip, wp_exit, wpo_cons, wpo_nil, stepG, step, onSome, X.ev, upd, S.put, S.setB, S.setT, DV.cells, splice, oneOrAgg, binDV, binInt, binStr, unDV, idxOf, evPath, S.cellAt, C.get, fitK, K.mem, C.isSl, toArgs, toArg, layOuts, RV.dv, K.zero, h0, h1, h5, hrow, hw, hm', hm]
    exact ⟨m - 1, by omega, i + 1, by omega, by omega⟩
  · have hm' : ¬ (i : Int) < r.length := by omega
    simp [wp_seq, wp_region, wp_cond, wp_block, wp_ret, wp_skip, wp_exit, wpo_cons, wpo_nil, stepG, step, onSome, X.ev, upd, S.put, S.setB, S.setT, DV.cells, splice, oneOrAgg, binDV, binInt, binStr, unDV, idxOf, evPath, S.cellAt, C.get, fitK, K.mem, C.isSl, toArgs, toArg, layOuts, RV.dv, K.zero, h0, h1, h5, hm, hm', finish, mkRes, rvsOf, rvOf, outsOf, outOf, extBox]

theorem eqS_loop {g ge sz : Nat} {fn : Fn'} : True := trivial

theorem eq73 (r : List (List C)) (hl : r.length < B63) (h : ∀ row ∈ r, (∃ k a b, row = [.int .i64 k, .sl 1 a, .sl 3 b]) ∧ Cal D 34 [.agg row, .agg row] = some ⟨.c (.bool true), []⟩) : Cal D 73 [.c (.sl 3 r), .c (.sl 3 r)] = some ⟨.c (.bool true), []⟩ := by
  simp only [B63] at hl
  refine Cal_of_wp (fn := q73) rfl ?_
  simp [q73, wp_seq, wp_region, wp_cond, wp_block, wp_ret, wp_skip, wp_exit, wpo_cons, wpo_nil, stepG, step, onSome, X.ev, upd, S.put, S.setB, S.setT, DV.cells, splice, oneOrAgg, binDV, binInt, binStr, unDV, idxOf, evPath, S.cellAt, C.get, fitK, K.mem, C.isSl, toArgs, toArg, layOuts, RV.dv, K.zero, init, initT, initB, extBox]
  refine wp_loop_inv (fun m s => ∃ i : Nat, i + m = r.length ∧ s.t 0 = .c (.sl 3 r) ∧ s.t 1 = .c (.sl 3 r) ∧ s.t 5 = .c (.int .i64 i)) ?_ r.length _ ⟨0, by simp, by simp [upd, initT], by simp [upd, initT], by simp [upd]⟩
  rintro m s ⟨i, hi, h0, h1, h5⟩
  by_cases hm : i < r.length
  · obtain ⟨⟨k, a, b, hrow⟩, hc⟩ := h r[i] (List.getElem_mem hm)
    rw [hrow] at hc
    have hw : IntKind.i64.wrap ((i : Int) + 1) = (i : Int) + 1 := wrap64 (by omega) (by omega)
    have hm' : (i : Int) < r.length := by omega
    simp [wp_seq, wp_region, wp_cond, wp_block, wp_ret, wp_skip, wp_exit, wpo_cons, wpo_nil, stepG, step, onSome, X.ev, upd, S.put, S.setB, S.setT, DV.cells, splice, oneOrAgg, binDV, binInt, binStr, unDV, idxOf, evPath, S.cellAt, C.get, fitK, K.mem, C.isSl, toArgs, toArg, layOuts, RV.dv, K.zero, h0, h1, h5, hrow, hc, hw, hm', hm]
    exact ⟨m - 1, by omega, i + 1, by omega, by omega⟩
  · have hm' : ¬ (i : Int) < r.length := by omega
    simp [wp_seq, wp_region, wp_cond, wp_block, wp_ret, wp_skip, wp_exit, wpo_cons, wpo_nil, stepG, step, onSome, X.ev, upd, S.put, S.setB, S.setT, DV.cells, splice, oneOrAgg, binDV, binInt, binStr, unDV, idxOf, evPath, S.cellAt, C.get, fitK, K.mem, C.isSl, toArgs, toArg, layOuts, RV.dv, K.zero, h0, h1, h5, hm, hm', finish, mkRes, rvsOf, rvOf, outsOf, outOf, extBox]

theorem eq87 (r : List (List C)) (hl : r.length < B63) (h : ∀ row ∈ r, (∃ k m l a b, row = [.int .i64 k, .int .i64 m, .str l, .sl 1 a, .sl 5 b]) ∧ Cal D 47 [.agg row, .agg row] = some ⟨.c (.bool true), []⟩) : Cal D 87 [.c (.sl 5 r), .c (.sl 5 r)] = some ⟨.c (.bool true), []⟩ := by
  simp only [B63] at hl
  refine Cal_of_wp (fn := q87) rfl ?_
  simp [q87, wp_seq, wp_region, wp_cond, wp_block, wp_ret, wp_skip, wp_exit, wpo_cons, wpo_nil, stepG, step, onSome, X.ev, upd, S.put, S.setB, S.setT, DV.cells, splice, oneOrAgg, binDV, binInt, binStr, unDV, idxOf, evPath, S.cellAt, C.get, fitK, K.mem, C.isSl, toArgs, toArg, layOuts, RV.dv, K.zero, init, initT, initB, extBox]
  refine wp_loop_inv (fun m s => ∃ i : Nat, i + m = r.length ∧ s.t 0 = .c (.sl 5 r) ∧ s.t 1 = .c (.sl 5 r) ∧ s.t 5 = .c (.int .i64 i)) ?_ r.length _ ⟨0, by simp, by simp [upd, initT], by simp [upd, initT], by simp [upd]⟩
  rintro m s ⟨i, hi, h0, h1, h5⟩
  by_cases hm : i < r.length
  · obtain ⟨⟨k, mm, l, a, b, hrow⟩, hc⟩ := h r[i] (List.getElem_mem hm)
    rw [hrow] at hc
    have hw : IntKind.i64.wrap ((i : Int) + 1) = (i : Int) + 1 := wrap64 (by omega) (by omega)
    have hm' : (i : Int) < r.length := by omega
    simp [wp_seq, wp_region, wp_cond, wp_block, wp_ret, wp_skip, wp_exit, wpo_cons, wpo_nil, stepG, step, onSome, X.ev, upd, S.put, S.setB, S.setT, DV.cells, splice, oneOrAgg, binDV, binInt, binStr, unDV, idxOf, evPath, S.cellAt, C.get, fitK, K.mem, C.isSl, toArgs, toArg, layOuts, RV.dv, K.zero, h0, h1, h5, hrow, hc, hw, hm', hm]
    exact ⟨m - 1, by omega, i + 1, by omega, by omega⟩
  · have hm' : ¬ (i : Int) < r.length := by omega
    simp [wp_seq, wp_region, wp_cond, wp_block, wp_ret, wp_skip, wp_exit, wpo_cons, wpo_nil, stepG, step, onSome, X.ev, upd, S.put, S.setB, S.setT, DV.cells, splice, oneOrAgg, binDV, binInt, binStr, unDV, idxOf, evPath, S.cellAt, C.get, fitK, K.mem, C.isSl, toArgs, toArg, layOuts, RV.dv, K.zero, h0, h1, h5, hm, hm', finish, mkRes, rvsOf, rvOf, outsOf, outOf, extBox]

theorem okT.form {B n : Nat} {cs : List C} (h : okT B n cs) : ∃ k a b, cs = [.int .i64 k, .sl 1 a, .sl 3 b] := by
  cases n with
  | zero => exact h.elim
  | succ n => obtain ⟨k, a, b, h, _⟩ := h; exact ⟨k, a, b, h⟩
theorem okV.form {B n : Nat} {cs : List C} (h : okV B n cs) : ∃ k m l a b, cs = [.int .i64 k, .int .i64 m, .str l, .sl 1 a, .sl 5 b] := by
  cases n with
  | zero => exact h.elim
  | succ n => obtain ⟨k, m, l, a, b, h, _⟩ := h; exact ⟨k, m, l, a, b, h⟩

theorem eq34 : ∀ (n : Nat) (cs : List C), okT B63 n cs → Cal D 34 [.agg cs, .agg cs] = some ⟨.c (.bool true), []⟩
  | 0, cs, h => h.elim
  | n + 1, cs, h => by
    obtain ⟨k, r1, r3, rfl, h1, h2, h3⟩ := h
    have c1 := eq72 r1 h1
    have c2 := eq73 r3 h2 fun row hr => ⟨(h3 row hr).form, eq34 n row (h3 row hr)⟩
    refine Cal_of_wp (fn := q34) rfl ?_
    simp [q34, wp_seq, wp_region, wp_cond, wp_block, wp_ret, wp_skip, wp_exit, wpo_cons, wpo_nil, stepG, step, onSome, X.ev, upd, S.put, S.setB, S.setT, DV.cells, splice, oneOrAgg, binDV, binInt, binStr, unDV, idxOf, evPath, S.cellAt, C.get, fitK, K.mem, C.isSl, toArgs, toArg, layOuts, RV.dv, K.zero, init, initT, initB, extBox, c1, c2, finish, mkRes, rvsOf, rvOf, outsOf, outOf, extBox]

theorem eq47 : ∀ (n : Nat) (cs : List C), okV B63 n cs → Cal D 47 [.agg cs, .agg cs] = some ⟨.c (.bool true), []⟩
  | 0, cs, h => h.elim
  | n + 1, cs, h => by
    obtain ⟨k, m, l, r1, r5, rfl, h0, h1, h2, h3⟩ := h
    have c1 := eq72 r1 h1
    have c2 := eq87 r5 h2 fun row hr => ⟨(h3 row hr).form, eq47 n row (h3 row hr)⟩
    refine Cal_of_wp (fn := q47) rfl ?_
    simp [q47, wp_seq, wp_region, wp_cond, wp_block, wp_ret, wp_skip, wp_exit, wpo_cons, wpo_nil, stepG, step, onSome, X.ev, upd, S.put, S.setB, S.setT, DV.cells, splice, oneOrAgg, binDV, binInt, binStr, unDV, idxOf, evPath, S.cellAt, C.get, fitK, K.mem, C.isSl, toArgs, toArg, layOuts, RV.dv, K.zero, init, initT, initB, extBox, c1, c2, finish, mkRes, rvsOf, rvOf, outsOf, outOf, extBox]

/-! ### A copy -/
theorem to68 (r : List (List C)) (h : okStrs B20 r) : Cal D 68 [.c (.sl 1 r)] = some ⟨.c (.sl 1 r), []⟩ := by
  obtain ⟨hl, h⟩ := h
  simp only [B20] at hl
  have hmk : r.length * 16 ≤ maxBytes := by simp only [maxBytes]; omega
  have hms : r.length ≤ maxStr := by simp only [maxStr]; omega
  refine Cal_of_wp (fn := q68) rfl ?_
  simp [q68, wp_seq, wp_region, wp_cond, wp_block, wp_ret, wp_skip, wp_exit, wpo_cons, wpo_nil, stepG, step, onSome, X.ev, upd, S.put, S.setB, S.setT, DV.cells, splice, oneOrAgg, binDV, binInt, binStr, unDV, idxOf, evPath, S.cellAt, C.get, fitK, K.mem, C.isSl, toArgs, toArg, layOuts, RV.dv, K.zero, init, initT, initB, extBox, hmk, hms]
  refine wp_loop_inv (fun m s => ∃ (i : Nat) (o : List (List C)), i + m = r.length ∧ s.t 0 = .c (.sl 1 r) ∧ s.t 3 = .c (.sl 1 o) ∧ s.t 4 = .c (.int .i64 i) ∧ o.length = r.length ∧ (∀ j, j < i → o[j]? = r[j]?) ∧ ∀ row ∈ o, row.length = 1) ?_ r.length _ ⟨0, List.replicate r.length [.str []], by simp, by simp [upd, initT], by simp [upd, initT], by simp [upd], by simp, by simp, fun row hr => by rw [List.eq_of_mem_replicate hr]; rfl⟩
  rintro m s ⟨i, o, hi, h0, h3, h4, ho, hj, hrw⟩
  by_cases hm : i < r.length
  · obtain ⟨l, hrow, _⟩ := h r[i] (List.getElem_mem hm)
    have hmo : i < o.length := by omega
    have hol := hrw o[i] (List.getElem_mem hmo)
    have hw : IntKind.i64.wrap ((i : Int) + 1) = (i : Int) + 1 := wrap64 (by omega) (by omega)
    have hm' : (i : Int) < r.length := by omega
    have hmo' : (i : Int) < o.length := by omega
    have hd : o[i].drop 1 = [] := List.drop_eq_nil_of_le (by omega)
    simp [wp_seq, wp_region, wp_cond, wp_block, wp_ret, wp_skip, wp_exit, wpo_cons, wpo_nil, stepG, step, onSome, X.ev, upd, S.put, S.setB, S.setT, DV.cells, splice, oneOrAgg, binDV, binInt, binStr, unDV, idxOf, evPath, S.cellAt, C.get, fitK, K.mem, C.isSl, toArgs, toArg, layOuts, RV.dv, K.zero, S.lay, S.setCell, C.set, h0, h3, h4, hrow, hw, hm', hm, hmo, hmo', ho, hol, hd]
    refine ⟨m - 1, by omega, i + 1, by omega, by omega, fun j hji => ?_, fun row hr => ?_⟩
    · rw [List.getElem?_set]
      by_cases hji' : i = j
      · subst hji'; simp [hmo, hm, hrow]
      · rw [if_neg hji']; exact hj j (by omega)
    · rcases List.mem_or_eq_of_mem_set hr with hr | hr
      · exact hrw row hr
      · rw [hr]; rfl
  · have hm' : ¬ (i : Int) < r.length := by omega
    have hor : o = r := List.ext_getElem? fun j => by
      by_cases hjl : j < r.length
      · exact hj j (by omega)
      · rw [List.getElem?_eq_none (by omega), List.getElem?_eq_none (by omega)]
    subst hor
    simp [wp_seq, wp_region, wp_cond, wp_block, wp_ret, wp_skip, wp_exit, wpo_cons, wpo_nil, stepG, step, onSome, X.ev, upd, S.put, S.setB, S.setT, DV.cells, splice, oneOrAgg, binDV, binInt, binStr, unDV, idxOf, evPath, S.cellAt, C.get, fitK, K.mem, C.isSl, toArgs, toArg, layOuts, RV.dv, K.zero, h0, h3, h4, hm, hm', finish, mkRes, rvsOf, rvOf, outsOf, outOf, extBox]

theorem to69 (r : List (List C)) (hl : r.length < B20) (h : ∀ row ∈ r, (∃ k a b, row = [.int .i64 k, .sl 1 a, .sl 3 b]) ∧ Cal D 31 [.agg row] = some ⟨.agg row, []⟩) : Cal D 69 [.c (.sl 3 r)] = some ⟨.c (.sl 3 r), []⟩ := by
  simp only [B20] at hl
  have hmk : r.length * 56 ≤ maxBytes := by simp only [maxBytes]; omega
  have hms : r.length ≤ maxStr := by simp only [maxStr]; omega
  refine Cal_of_wp (fn := q69) rfl ?_
  simp [q69, wp_seq, wp_region, wp_cond, wp_block, wp_ret, wp_skip, wp_exit, wpo_cons, wpo_nil, stepG, step, onSome, X.ev, upd, S.put, S.setB, S.setT, DV.cells, splice, oneOrAgg, binDV, binInt, binStr, unDV, idxOf, evPath, S.cellAt, C.get, fitK, K.mem, C.isSl, toArgs, toArg, layOuts, RV.dv, K.zero, init, initT, initB, extBox, hmk, hms]
  refine wp_loop_inv (fun m s => ∃ (i : Nat) (o : List (List C)), i + m = r.length ∧ s.t 0 = .c (.sl 3 r) ∧ s.t 3 = .c (.sl 3 o) ∧ s.t 4 = .c (.int .i64 i) ∧ o.length = r.length ∧ (∀ j, j < i → o[j]? = r[j]?) ∧ ∀ row ∈ o, row.length = 3) ?_ r.length _ ⟨0, List.replicate r.length [.int .i64 0, .sl 1 [], .sl 3 []], by simp, by simp [upd, initT], by simp [upd, initT], by simp [upd], by simp, by simp, fun row hr => by rw [List.eq_of_mem_replicate hr]; rfl⟩
  rintro m s ⟨i, o, hi, h0, h3, h4, ho, hj, hrw⟩
  by_cases hm : i < r.length
  · obtain ⟨⟨k, a, b, hrow⟩, hc⟩ := h r[i] (List.getElem_mem hm)
    rw [hrow] at hc
    have hmo : i < o.length := by omega
    have hol := hrw o[i] (List.getElem_mem hmo)
    have hw : IntKind.i64.wrap ((i : Int) + 1) = (i : Int) + 1 := wrap64 (by omega) (by omega)
    have hm' : (i : Int) < r.length := by omega
    have hmo' : (i : Int) < o.length := by omega
    have hd : o[i].drop 3 = [] := List.drop_eq_nil_of_le (by omega)
    simp [wp_seq, wp_region, wp_cond, wp_block, wp_ret, wp_skip, wp_exit, wpo_cons, wpo_nil, stepG, step, onSome, X.ev, upd, S.put, S.setB, S.setT, DV.cells, splice, oneOrAgg, binDV, binInt, binStr, unDV, idxOf, evPath, S.cellAt, C.get, fitK, K.mem, C.isSl, toArgs, toArg, layOuts, RV.dv, K.zero, S.lay, S.setCell, C.set, h0, h3, h4, hrow, hc, hw, hm', hm, hmo, hmo', ho, hol, hd]
    refine ⟨m - 1, by omega, i + 1, by omega, by omega, fun j hji => ?_, fun row hr => ?_⟩
    · rw [List.getElem?_set]
      by_cases hji' : i = j
      · subst hji'; simp [hmo, hm, hrow]
      · rw [if_neg hji']; exact hj j (by omega)
    · rcases List.mem_or_eq_of_mem_set hr with hr | hr
      · exact hrw row hr
      · rw [hr]; rfl
  · have hm' : ¬ (i : Int) < r.length := by omega
    have hor : o = r := List.ext_getElem? fun j => by
      by_cases hjl : j < r.length
      · exact hj j (by omega)
      · rw [List.getElem?_eq_none (by omega), List.getElem?_eq_none (by omega)]
    subst hor
    simp [wp_seq, wp_region, wp_cond, wp_block, wp_ret, wp_skip, wp_exit, wpo_cons, wpo_nil, stepG, step, onSome, X.ev, upd, S.put, S.setB, S.setT, DV.cells, splice, oneOrAgg, binDV, binInt, binStr, unDV, idxOf, evPath, S.cellAt, C.get, fitK, K.mem, C.isSl, toArgs, toArg, layOuts, RV.dv, K.zero, h0, h3, h4, hm, hm', finish, mkRes, rvsOf, rvOf, outsOf, outOf, extBox]

theorem to86 (r : List (List C)) (hl : r.length < B20) (h : ∀ row ∈ r, (∃ k m l a b, row = [.int .i64 k, .int .i64 m, .str l, .sl 1 a, .sl 5 b]) ∧ Cal D 46 [.agg row] = some ⟨.agg row, []⟩) : Cal D 86 [.c (.sl 5 r)] = some ⟨.c (.sl 5 r), []⟩ := by
  simp only [B20] at hl
  have hmk : r.length * 80 ≤ maxBytes := by simp only [maxBytes]; omega
  have hms : r.length ≤ maxStr := by simp only [maxStr]; omega
  refine Cal_of_wp (fn := q86) rfl ?_
  simp [q86, wp_seq, wp_region, wp_cond, wp_block, wp_ret, wp_skip, wp_exit, wpo_cons, wpo_nil, stepG, step, onSome, X.ev, upd, S.put, S.setB, S.setT, DV.cells, splice, oneOrAgg, binDV, binInt, binStr, unDV, idxOf, evPath, S.cellAt, C.get, fitK, K.mem, C.isSl, toArgs, toArg, layOuts, RV.dv, K.zero, init, initT, initB, extBox, hmk, hms]
  refine wp_loop_inv (fun m s => ∃ (i : Nat) (o : List (List C)), i + m = r.length ∧ s.t 0 = .c (.sl 5 r) ∧ s.t 3 = .c (.sl 5 o) ∧ s.t 4 = .c (.int .i64 i) ∧ o.length = r.length ∧ (∀ j, j < i → o[j]? = r[j]?) ∧ ∀ row ∈ o, row.length = 5) ?_ r.length _ ⟨0, List.replicate r.length [.int .i64 0, .int .i64 0, .str [], .sl 1 [], .sl 5 []], by simp, by simp [upd, initT], by simp [upd, initT], by simp [upd], by simp, by simp, fun row hr => by rw [List.eq_of_mem_replicate hr]; rfl⟩
  rintro m s ⟨i, o, hi, h0, h3, h4, ho, hj, hrw⟩
  by_cases hm : i < r.length
  · obtain ⟨⟨k, mm, l, a, b, hrow⟩, hc⟩ := h r[i] (List.getElem_mem hm)
    rw [hrow] at hc
    have hmo : i < o.length := by omega
    have hol := hrw o[i] (List.getElem_mem hmo)
    have hw : IntKind.i64.wrap ((i : Int) + 1) = (i : Int) + 1 := wrap64 (by omega) (by omega)
    have hm' : (i : Int) < r.length := by omega
    have hmo' : (i : Int) < o.length := by omega
    have hd : o[i].drop 5 = [] := List.drop_eq_nil_of_le (by omega)
    simp [wp_seq, wp_region, wp_cond, wp_block, wp_ret, wp_skip, wp_exit, wpo_cons, wpo_nil, stepG, step, onSome, X.ev, upd, S.put, S.setB, S.setT, DV.cells, splice, oneOrAgg, binDV, binInt, binStr, unDV, idxOf, evPath, S.cellAt, C.get, fitK, K.mem, C.isSl, toArgs, toArg, layOuts, RV.dv, K.zero, S.lay, S.setCell, C.set, h0, h3, h4, hrow, hc, hw, hm', hm, hmo, hmo', ho, hol, hd]
    refine ⟨m - 1, by omega, i + 1, by omega, by omega, fun j hji => ?_, fun row hr => ?_⟩
    · rw [List.getElem?_set]
      by_cases hji' : i = j
      · subst hji'; simp [hmo, hm, hrow]
      · rw [if_neg hji']; exact hj j (by omega)
    · rcases List.mem_or_eq_of_mem_set hr with hr | hr
      · exact hrw row hr
      · rw [hr]; rfl
  · have hm' : ¬ (i : Int) < r.length := by omega
    have hor : o = r := List.ext_getElem? fun j => by
      by_cases hjl : j < r.length
      · exact hj j (by omega)
      · rw [List.getElem?_eq_none (by omega), List.getElem?_eq_none (by omega)]
    subst hor
    simp [wp_seq, wp_region, wp_cond, wp_block, wp_ret, wp_skip, wp_exit, wpo_cons, wpo_nil, stepG, step, onSome, X.ev, upd, S.put, S.setB, S.setT, DV.cells, splice, oneOrAgg, binDV, binInt, binStr, unDV, idxOf, evPath, S.cellAt, C.get, fitK, K.mem, C.isSl, toArgs, toArg, layOuts, RV.dv, K.zero, h0, h3, h4, hm, hm', finish, mkRes, rvsOf, rvOf, outsOf, outOf, extBox]

theorem to31 : ∀ (n : Nat) (cs : List C), okT B20 n cs → Cal D 31 [.agg cs] = some ⟨.agg cs, []⟩
  | 0, cs, h => h.elim
  | n + 1, cs, h => by
    obtain ⟨k, r1, r3, rfl, h1, h2, h3⟩ := h
    have c1 := to68 r1 h1
    have c2 := to69 r3 h2 fun row hr => ⟨(h3 row hr).form, to31 n row (h3 row hr)⟩
    refine Cal_of_wp (fn := q31) rfl ?_
    simp [q31, wp_seq, wp_region, wp_cond, wp_block, wp_ret, wp_skip, wp_exit, wpo_cons, wpo_nil, stepG, step, onSome, X.ev, upd, S.put, S.setB, S.setT, DV.cells, splice, oneOrAgg, binDV, binInt, binStr, unDV, idxOf, evPath, S.cellAt, C.get, fitK, K.mem, C.isSl, toArgs, toArg, layOuts, RV.dv, K.zero, init, initT, initB, extBox, c1, c2, finish, mkRes, rvsOf, rvOf, outsOf, outOf, extBox]

theorem to46 : ∀ (n : Nat) (cs : List C), okV B20 n cs → Cal D 46 [.agg cs] = some ⟨.agg cs, []⟩
  | 0, cs, h => h.elim
  | n + 1, cs, h => by
    obtain ⟨k, m, l, r1, r5, rfl, h0, h1, h2, h3⟩ := h
    have c1 := to68 r1 h1
    have c2 := to86 r5 h2 fun row hr => ⟨(h3 row hr).form, to46 n row (h3 row hr)⟩
    refine Cal_of_wp (fn := q46) rfl ?_
    simp [q46, wp_seq, wp_region, wp_cond, wp_block, wp_ret, wp_skip, wp_exit, wpo_cons, wpo_nil, stepG, step, onSome, X.ev, upd, S.put, S.setB, S.setT, DV.cells, splice, oneOrAgg, binDV, binInt, binStr, unDV, idxOf, evPath, S.cellAt, C.get, fitK, K.mem, C.isSl, toArgs, toArg, layOuts, RV.dv, K.zero, init, initT, initB, extBox, c1, c2, finish, mkRes, rvsOf, rvOf, outsOf, outOf, extBox]
end Go.Opt
