/- Sizes, and the law. -/
import Derived.Test.YtioopdicoidmcaaIsL
set_option linter.all false
set_option linter.unusedSimpArgs false
set_option maxRecDepth 100000
namespace Go.Opt

theorem sz63 (r : List (List C)) (left : Int) (h0 : 0 ≤ left) (h1 : left ≤ 1048576) (h : okStrs B63 r) : ∃ q, Cal D 63 [.c (.sl 1 r), .c (.int .i64 left)] = some q ∧ Szd left (okStrs B20 r) q := by
  obtain ⟨hl, h⟩ := h
  simp only [B63] at hl
  refine Cal_ex (fn := q63) rfl ?_
  have w1 : IntKind.i64.wrap (left - (r.length : Int)) = left - (r.length : Int) := wrap64 (by omega) (by omega)
  by_cases hneg : left - (r.length : Int) < 0
  · simp [q63, wp_seq, wp_region, wp_cond, wp_block, wp_ret, wp_skip, wp_exit, wpo_cons, wpo_nil, stepG, step, onSome, X.ev, upd, S.put, S.setB, S.setT, DV.cells, splice, oneOrAgg, binDV, binInt, binStr, unDV, idxOf, evPath, S.cellAt, C.get, fitK, K.mem, C.isSl, toArgs, toArg, layOuts, RV.dv, K.zero, init, initT, initB, extBox, w1, hneg, finish, mkRes, rvsOf, rvOf, outsOf, outOf, extBox]
    exact ⟨-1, rfl, by omega, by omega, by omega⟩
  simp [q63, wp_seq, wp_region, wp_cond, wp_block, wp_ret, wp_skip, wp_exit, wpo_cons, wpo_nil, stepG, step, onSome, X.ev, upd, S.put, S.setB, S.setT, DV.cells, splice, oneOrAgg, binDV, binInt, binStr, unDV, idxOf, evPath, S.cellAt, C.get, fitK, K.mem, C.isSl, toArgs, toArg, layOuts, RV.dv, K.zero, init, initT, initB, extBox, w1, hneg]
  refine wp_loop_inv (fun m s => ∃ (i : Nat) (lf : Int), i + m = r.length ∧ s.t 0 = .c (.sl 1 r) ∧ s.t 1 = .c (.int .i64 lf) ∧ s.t 5 = .c (.int .i64 i) ∧ 0 ≤ lf ∧ lf + r.length ≤ left) ?_ r.length _ ⟨0, left - r.length, by simp, by simp [upd, initT], by simp [upd, initT], by simp [upd], by omega, by omega⟩
  rintro m s ⟨i, lf, hi, t0, t1, t5, hlf, hle⟩
  by_cases hm : i < r.length
  · obtain ⟨l, hrow, hll⟩ := h r[i] (List.getElem_mem hm)
    simp only [B63] at hll
    have hw : IntKind.i64.wrap ((i : Int) + 1) = (i : Int) + 1 := wrap64 (by omega) (by omega)
    have w2 : IntKind.i64.wrap (lf - (l.length : Int)) = lf - (l.length : Int) := wrap64 (by omega) (by omega)
    have hm' : (i : Int) < r.length := by omega
    by_cases hn : lf - (l.length : Int) < 0
    · simp [wp_seq, wp_region, wp_cond, wp_block, wp_ret, wp_skip, wp_exit, wpo_cons, wpo_nil, stepG, step, onSome, X.ev, upd, S.put, S.setB, S.setT, DV.cells, splice, oneOrAgg, binDV, binInt, binStr, unDV, idxOf, evPath, S.cellAt, C.get, fitK, K.mem, C.isSl, toArgs, toArg, layOuts, RV.dv, K.zero, t0, t1, t5, hrow, hw, w2, hm', hm, hn, finish, mkRes, rvsOf, rvOf, outsOf, outOf, extBox]
      exact ⟨-1, rfl, by omega, by omega, by omega⟩
    · simp [wp_seq, wp_region, wp_cond, wp_block, wp_ret, wp_skip, wp_exit, wpo_cons, wpo_nil, stepG, step, onSome, X.ev, upd, S.put, S.setB, S.setT, DV.cells, splice, oneOrAgg, binDV, binInt, binStr, unDV, idxOf, evPath, S.cellAt, C.get, fitK, K.mem, C.isSl, toArgs, toArg, layOuts, RV.dv, K.zero, t0, t1, t5, hrow, hw, w2, hm', hm, hn]
      exact ⟨m - 1, by omega, i + 1, by omega, by omega, by omega⟩
  · have hm' : ¬ (i : Int) < r.length := by omega
    simp [wp_seq, wp_region, wp_cond, wp_block, wp_ret, wp_skip, wp_exit, wpo_cons, wpo_nil, stepG, step, onSome, X.ev, upd, S.put, S.setB, S.setT, DV.cells, splice, oneOrAgg, binDV, binInt, binStr, unDV, idxOf, evPath, S.cellAt, C.get, fitK, K.mem, C.isSl, toArgs, toArg, layOuts, RV.dv, K.zero, t0, t1, t5, hm, hm', finish, mkRes, rvsOf, rvOf, outsOf, outOf, extBox]
    exact ⟨lf, rfl, by omega, by omega, fun _ => ⟨by omega, by simp only [B20]; omega, h⟩⟩

theorem sz64 (n : Nat) (r : List (List C)) (left : Int) (h0 : 0 ≤ left) (h1 : left ≤ 1048576) (hl : r.length < B63) (h : ∀ row ∈ r, (∃ k a b, row = [.int .i64 k, .sl 1 a, .sl 3 b]) ∧ ∀ left : Int, 0 ≤ left → left ≤ 1048576 → ∃ q, Cal D 29 [.agg row, .c (.int .i64 left)] = some q ∧ Szd left (okT B20 n row) q) :
    ∃ q, Cal D 64 [.c (.sl 3 r), .c (.int .i64 left)] = some q ∧ Szd left (r.length < B20 ∧ ∀ row ∈ r, okT B20 n row) q := by
  simp only [B63] at hl
  refine Cal_ex (fn := q64) rfl ?_
  have w1 : IntKind.i64.wrap (left - (r.length : Int)) = left - (r.length : Int) := wrap64 (by omega) (by omega)
  by_cases hneg : left - (r.length : Int) < 0
  · simp [q64, wp_seq, wp_region, wp_cond, wp_block, wp_ret, wp_skip, wp_exit, wpo_cons, wpo_nil, stepG, step, onSome, X.ev, upd, S.put, S.setB, S.setT, DV.cells, splice, oneOrAgg, binDV, binInt, binStr, unDV, idxOf, evPath, S.cellAt, C.get, fitK, K.mem, C.isSl, toArgs, toArg, layOuts, RV.dv, K.zero, init, initT, initB, extBox, w1, hneg, finish, mkRes, rvsOf, rvOf, outsOf, outOf, extBox]
    exact ⟨-1, rfl, by omega, by omega, by omega⟩
  simp [q64, wp_seq, wp_region, wp_cond, wp_block, wp_ret, wp_skip, wp_exit, wpo_cons, wpo_nil, stepG, step, onSome, X.ev, upd, S.put, S.setB, S.setT, DV.cells, splice, oneOrAgg, binDV, binInt, binStr, unDV, idxOf, evPath, S.cellAt, C.get, fitK, K.mem, C.isSl, toArgs, toArg, layOuts, RV.dv, K.zero, init, initT, initB, extBox, w1, hneg]
  refine wp_loop_inv (fun m s => ∃ (i : Nat) (lf : Int), i + m = r.length ∧ s.t 0 = .c (.sl 3 r) ∧ s.t 1 = .c (.int .i64 lf) ∧ s.t 5 = .c (.int .i64 i) ∧ 0 ≤ lf ∧ lf + r.length ≤ left ∧ ∀ (j : Nat) (hj : j < r.length), j < i → okT B20 n r[j]) ?_ r.length _ ⟨0, left - r.length, by simp, by simp [upd, initT], by simp [upd, initT], by simp [upd], by omega, by omega, fun j hj hji => absurd hji (by omega)⟩
  rintro m s ⟨i, lf, hi, t0, t1, t5, hlf, hle, hok⟩
  by_cases hm : i < r.length
  · obtain ⟨⟨k, a, b, hrow⟩, hc⟩ := h r[i] (List.getElem_mem hm)
    obtain ⟨q, hq, v, rfl, v1, v2, v3⟩ := hc lf hlf (by omega)
    rw [hrow] at hq
    have hw : IntKind.i64.wrap ((i : Int) + 1) = (i : Int) + 1 := wrap64 (by omega) (by omega)
    have hm' : (i : Int) < r.length := by omega
    by_cases hn : v < 0
    · simp [wp_seq, wp_region, wp_cond, wp_block, wp_ret, wp_skip, wp_exit, wpo_cons, wpo_nil, stepG, step, onSome, X.ev, upd, S.put, S.setB, S.setT, DV.cells, splice, oneOrAgg, binDV, binInt, binStr, unDV, idxOf, evPath, S.cellAt, C.get, fitK, K.mem, C.isSl, toArgs, toArg, layOuts, RV.dv, K.zero, t0, t1, t5, hrow, hq, hw, hm', hm, hn, finish, mkRes, rvsOf, rvOf, outsOf, outOf, extBox]
      exact ⟨-1, rfl, by omega, by omega, by omega⟩
    · simp [wp_seq, wp_region, wp_cond, wp_block, wp_ret, wp_skip, wp_exit, wpo_cons, wpo_nil, stepG, step, onSome, X.ev, upd, S.put, S.setB, S.setT, DV.cells, splice, oneOrAgg, binDV, binInt, binStr, unDV, idxOf, evPath, S.cellAt, C.get, fitK, K.mem, C.isSl, toArgs, toArg, layOuts, RV.dv, K.zero, t0, t1, t5, hrow, hq, hw, hm', hm, hn]
      refine ⟨m - 1, by omega, i + 1, by omega, by omega, by omega, by omega, fun j hj hji => ?_⟩
      by_cases hij : j = i
      · subst hij; exact (v3 (by omega)).2
      · exact hok j hj (by omega)
  · have hm' : ¬ (i : Int) < r.length := by omega
    simp [wp_seq, wp_region, wp_cond, wp_block, wp_ret, wp_skip, wp_exit, wpo_cons, wpo_nil, stepG, step, onSome, X.ev, upd, S.put, S.setB, S.setT, DV.cells, splice, oneOrAgg, binDV, binInt, binStr, unDV, idxOf, evPath, S.cellAt, C.get, fitK, K.mem, C.isSl, toArgs, toArg, layOuts, RV.dv, K.zero, t0, t1, t5, hm, hm', finish, mkRes, rvsOf, rvOf, outsOf, outOf, extBox]
    refine ⟨lf, rfl, by omega, by omega, fun _ => ⟨by omega, by simp only [B20]; omega, fun row hr => ?_⟩⟩
    obtain ⟨j, hj, rfl⟩ := List.getElem_of_mem hr
    exact hok j hj (by omega)

theorem sz29 : ∀ (n : Nat) (cs : List C) (left : Int), okT B63 n cs → 0 ≤ left → left ≤ 1048576 → ∃ q, Cal D 29 [.agg cs, .c (.int .i64 left)] = some q ∧ Szd left (okT B20 n cs) q
  | 0, cs, left, h, _, _ => h.elim
  | n + 1, cs, left, h, hl0, hl1 => by
    obtain ⟨k, r1, r3, rfl, h1, h2, h3⟩ := h
    obtain ⟨_, c1, a, rfl, a1, a2, a3⟩ := sz63 r1 left hl0 hl1 h1
    refine Cal_ex (fn := q29) rfl ?_
    by_cases ha : a < 0
    · simp [q29, wp_seq, wp_region, wp_cond, wp_block, wp_ret, wp_skip, wp_exit, wpo_cons, wpo_nil, stepG, step, onSome, X.ev, upd, S.put, S.setB, S.setT, DV.cells, splice, oneOrAgg, binDV, binInt, binStr, unDV, idxOf, evPath, S.cellAt, C.get, fitK, K.mem, C.isSl, toArgs, toArg, layOuts, RV.dv, K.zero, init, initT, initB, extBox, c1, ha, finish, mkRes, rvsOf, rvOf, outsOf, outOf, extBox]
      exact ⟨-1, rfl, by omega, by omega, by omega⟩
    obtain ⟨_, c2, b, rfl, b1, b2, b3⟩ := sz64 n r3 a (by omega) (by omega) h2 fun row hr => ⟨(h3 row hr).form, fun l => sz29 n row l (h3 row hr)⟩
    by_cases hb : b < 0
    · simp [q29, wp_seq, wp_region, wp_cond, wp_block, wp_ret, wp_skip, wp_exit, wpo_cons, wpo_nil, stepG, step, onSome, X.ev, upd, S.put, S.setB, S.setT, DV.cells, splice, oneOrAgg, binDV, binInt, binStr, unDV, idxOf, evPath, S.cellAt, C.get, fitK, K.mem, C.isSl, toArgs, toArg, layOuts, RV.dv, K.zero, init, initT, initB, extBox, c1, ha, c2, hb, finish, mkRes, rvsOf, rvOf, outsOf, outOf, extBox]
      exact ⟨-1, rfl, by omega, by omega, by omega⟩
    simp [q29, wp_seq, wp_region, wp_cond, wp_block, wp_ret, wp_skip, wp_exit, wpo_cons, wpo_nil, stepG, step, onSome, X.ev, upd, S.put, S.setB, S.setT, DV.cells, splice, oneOrAgg, binDV, binInt, binStr, unDV, idxOf, evPath, S.cellAt, C.get, fitK, K.mem, C.isSl, toArgs, toArg, layOuts, RV.dv, K.zero, init, initT, initB, extBox, c1, ha, c2, hb, finish, mkRes, rvsOf, rvOf, outsOf, outOf, extBox]
    exact ⟨b, rfl, by omega, by omega, fun _ => ⟨by omega, k, r1, r3, rfl, (a3 (by omega)).2, (b3 (by omega)).2⟩⟩

theorem sz85 (n : Nat) (r : List (List C)) (left : Int) (h0 : 0 ≤ left) (h1 : left ≤ 1048576) (hl : r.length < B63) (h : ∀ row ∈ r, (∃ k mm l a b, row = [.int .i64 k, .int .i64 mm, .str l, .sl 1 a, .sl 5 b]) ∧ ∀ left : Int, 0 ≤ left → left ≤ 1048576 → ∃ q, Cal D 45 [.agg row, .c (.int .i64 left)] = some q ∧ Szd left (okV B20 n row) q) :
    ∃ q, Cal D 85 [.c (.sl 5 r), .c (.int .i64 left)] = some q ∧ Szd left (r.length < B20 ∧ ∀ row ∈ r, okV B20 n row) q := by
  simp only [B63] at hl
  refine Cal_ex (fn := q85) rfl ?_
  have w1 : IntKind.i64.wrap (left - (r.length : Int)) = left - (r.length : Int) := wrap64 (by omega) (by omega)
  by_cases hneg : left - (r.length : Int) < 0
  · simp [q85, wp_seq, wp_region, wp_cond, wp_block, wp_ret, wp_skip, wp_exit, wpo_cons, wpo_nil, stepG, step, onSome, X.ev, upd, S.put, S.setB, S.setT, DV.cells, splice, oneOrAgg, binDV, binInt, binStr, unDV, idxOf, evPath, S.cellAt, C.get, fitK, K.mem, C.isSl, toArgs, toArg, layOuts, RV.dv, K.zero, init, initT, initB, extBox, w1, hneg, finish, mkRes, rvsOf, rvOf, outsOf, outOf, extBox]
    exact ⟨-1, rfl, by omega, by omega, by omega⟩
  simp [q85, wp_seq, wp_region, wp_cond, wp_block, wp_ret, wp_skip, wp_exit, wpo_cons, wpo_nil, stepG, step, onSome, X.ev, upd, S.put, S.setB, S.setT, DV.cells, splice, oneOrAgg, binDV, binInt, binStr, unDV, idxOf, evPath, S.cellAt, C.get, fitK, K.mem, C.isSl, toArgs, toArg, layOuts, RV.dv, K.zero, init, initT, initB, extBox, w1, hneg]
  refine wp_loop_inv (fun m s => ∃ (i : Nat) (lf : Int), i + m = r.length ∧ s.t 0 = .c (.sl 5 r) ∧ s.t 1 = .c (.int .i64 lf) ∧ s.t 5 = .c (.int .i64 i) ∧ 0 ≤ lf ∧ lf + r.length ≤ left ∧ ∀ (j : Nat) (hj : j < r.length), j < i → okV B20 n r[j]) ?_ r.length _ ⟨0, left - r.length, by simp, by simp [upd, initT], by simp [upd, initT], by simp [upd], by omega, by omega, fun j hj hji => absurd hji (by omega)⟩
  rintro m s ⟨i, lf, hi, t0, t1, t5, hlf, hle, hok⟩
  by_cases hm : i < r.length
  · obtain ⟨⟨k, mm, l, a, b, hrow⟩, hc⟩ := h r[i] (List.getElem_mem hm)
    obtain ⟨q, hq, v, rfl, v1, v2, v3⟩ := hc lf hlf (by omega)
    rw [hrow] at hq
    have hw : IntKind.i64.wrap ((i : Int) + 1) = (i : Int) + 1 := wrap64 (by omega) (by omega)
    have hm' : (i : Int) < r.length := by omega
    by_cases hn : v < 0
    · simp [wp_seq, wp_region, wp_cond, wp_block, wp_ret, wp_skip, wp_exit, wpo_cons, wpo_nil, stepG, step, onSome, X.ev, upd, S.put, S.setB, S.setT, DV.cells, splice, oneOrAgg, binDV, binInt, binStr, unDV, idxOf, evPath, S.cellAt, C.get, fitK, K.mem, C.isSl, toArgs, toArg, layOuts, RV.dv, K.zero, t0, t1, t5, hrow, hq, hw, hm', hm, hn, finish, mkRes, rvsOf, rvOf, outsOf, outOf, extBox]
      exact ⟨-1, rfl, by omega, by omega, by omega⟩
    · simp [wp_seq, wp_region, wp_cond, wp_block, wp_ret, wp_skip, wp_exit, wpo_cons, wpo_nil, stepG, step, onSome, X.ev, upd, S.put, S.setB, S.setT, DV.cells, splice, oneOrAgg, binDV, binInt, binStr, unDV, idxOf, evPath, S.cellAt, C.get, fitK, K.mem, C.isSl, toArgs, toArg, layOuts, RV.dv, K.zero, t0, t1, t5, hrow, hq, hw, hm', hm, hn]
      refine ⟨m - 1, by omega, i + 1, by omega, by omega, by omega, by omega, fun j hj hji => ?_⟩
      by_cases hij : j = i
      · subst hij; exact (v3 (by omega)).2
      · exact hok j hj (by omega)
  · have hm' : ¬ (i : Int) < r.length := by omega
    simp [wp_seq, wp_region, wp_cond, wp_block, wp_ret, wp_skip, wp_exit, wpo_cons, wpo_nil, stepG, step, onSome, X.ev, upd, S.put, S.setB, S.setT, DV.cells, splice, oneOrAgg, binDV, binInt, binStr, unDV, idxOf, evPath, S.cellAt, C.get, fitK, K.mem, C.isSl, toArgs, toArg, layOuts, RV.dv, K.zero, t0, t1, t5, hm, hm', finish, mkRes, rvsOf, rvOf, outsOf, outOf, extBox]
    refine ⟨lf, rfl, by omega, by omega, fun _ => ⟨by omega, by simp only [B20]; omega, fun row hr => ?_⟩⟩
    obtain ⟨j, hj, rfl⟩ := List.getElem_of_mem hr
    exact hok j hj (by omega)

theorem sz45 : ∀ (n : Nat) (cs : List C) (left : Int), okV B63 n cs → 0 ≤ left → left ≤ 1048576 → ∃ q, Cal D 45 [.agg cs, .c (.int .i64 left)] = some q ∧ Szd left (okV B20 n cs) q
  | 0, cs, left, h, _, _ => h.elim
  | n + 1, cs, left, h, hl0, hl1 => by
    obtain ⟨k, m, l, r1, r5, rfl, h0, h1, h2, h3⟩ := h
    have hll := h0
    simp only [B63] at hll
    have w1 : IntKind.i64.wrap (left - (l.length : Int)) = left - (l.length : Int) := wrap64 (by omega) (by omega)
    refine Cal_ex (fn := q45) rfl ?_
    by_cases hn : left - (l.length : Int) < 0
    · simp [q45, wp_seq, wp_region, wp_cond, wp_block, wp_ret, wp_skip, wp_exit, wpo_cons, wpo_nil, stepG, step, onSome, X.ev, upd, S.put, S.setB, S.setT, DV.cells, splice, oneOrAgg, binDV, binInt, binStr, unDV, idxOf, evPath, S.cellAt, C.get, fitK, K.mem, C.isSl, toArgs, toArg, layOuts, RV.dv, K.zero, init, initT, initB, extBox, w1, hn, finish, mkRes, rvsOf, rvOf, outsOf, outOf, extBox]
      exact ⟨-1, rfl, by omega, by omega, by omega⟩
    obtain ⟨_, c1, a, rfl, a1, a2, a3⟩ := sz63 r1 (left - l.length) (by omega) (by omega) h1
    by_cases ha : a < 0
    · simp [q45, wp_seq, wp_region, wp_cond, wp_block, wp_ret, wp_skip, wp_exit, wpo_cons, wpo_nil, stepG, step, onSome, X.ev, upd, S.put, S.setB, S.setT, DV.cells, splice, oneOrAgg, binDV, binInt, binStr, unDV, idxOf, evPath, S.cellAt, C.get, fitK, K.mem, C.isSl, toArgs, toArg, layOuts, RV.dv, K.zero, init, initT, initB, extBox, w1, hn, c1, ha, finish, mkRes, rvsOf, rvOf, outsOf, outOf, extBox]
      exact ⟨-1, rfl, by omega, by omega, by omega⟩
    obtain ⟨_, c2, b, rfl, b1, b2, b3⟩ := sz85 n r5 a (by omega) (by omega) h2 fun row hr => ⟨(h3 row hr).form, fun l => sz45 n row l (h3 row hr)⟩
    by_cases hb : b < 0
    · simp [q45, wp_seq, wp_region, wp_cond, wp_block, wp_ret, wp_skip, wp_exit, wpo_cons, wpo_nil, stepG, step, onSome, X.ev, upd, S.put, S.setB, S.setT, DV.cells, splice, oneOrAgg, binDV, binInt, binStr, unDV, idxOf, evPath, S.cellAt, C.get, fitK, K.mem, C.isSl, toArgs, toArg, layOuts, RV.dv, K.zero, init, initT, initB, extBox, w1, hn, c1, ha, c2, hb, finish, mkRes, rvsOf, rvOf, outsOf, outOf, extBox]
      exact ⟨-1, rfl, by omega, by omega, by omega⟩
    simp [q45, wp_seq, wp_region, wp_cond, wp_block, wp_ret, wp_skip, wp_exit, wpo_cons, wpo_nil, stepG, step, onSome, X.ev, upd, S.put, S.setB, S.setT, DV.cells, splice, oneOrAgg, binDV, binInt, binStr, unDV, idxOf, evPath, S.cellAt, C.get, fitK, K.mem, C.isSl, toArgs, toArg, layOuts, RV.dv, K.zero, init, initT, initB, extBox, w1, hn, c1, ha, c2, hb, finish, mkRes, rvsOf, rvOf, outsOf, outOf, extBox]
    exact ⟨b, rfl, by omega, by omega, fun _ => ⟨by omega, k, m, l, r1, r5, rfl, h0, (a3 (by omega)).2, (b3 (by omega)).2⟩⟩

/-- A migration. -/
def okM (B n : Nat) (cs : List C) : Prop := ∃ k l m t1 t2 t3 v1 v2 v3 v4 v5, cs = [.int .i64 k, .str l, .str m, t1, t2, t3, v1, v2, v3, v4, v5] ∧ l.length < B63 ∧ m.length < B63 ∧ okT B n [t1, t2, t3] ∧ okV B n [v1, v2, v3, v4, v5]

theorem sz8 (n : Nat) (cs : List C) (left : Int) (h : okM B63 n cs) (hl0 : 0 ≤ left) (hl1 : left ≤ 1048576) : ∃ q, Cal D 8 [.agg cs, .c (.int .i64 left)] = some q ∧ Szd left (okM B20 n cs) q := by
  obtain ⟨k, l, m, t1, t2, t3, x1, x2, x3, x4, x5, rfl, h1, h2, h3, h4⟩ := h
  have hl := h1
  have hm := h2
  simp only [B63] at hl hm
  have w1 : IntKind.i64.wrap (left - (l.length : Int)) = left - (l.length : Int) := wrap64 (by omega) (by omega)
  refine Cal_ex (fn := q8) rfl ?_
  by_cases hn : left - (l.length : Int) < 0
  · simp [q8, wp_seq, wp_region, wp_cond, wp_block, wp_ret, wp_skip, wp_exit, wpo_cons, wpo_nil, stepG, step, onSome, X.ev, upd, S.put, S.setB, S.setT, DV.cells, splice, oneOrAgg, binDV, binInt, binStr, unDV, idxOf, evPath, S.cellAt, C.get, fitK, K.mem, C.isSl, toArgs, toArg, layOuts, RV.dv, K.zero, init, initT, initB, extBox, w1, hn, finish, mkRes, rvsOf, rvOf, outsOf, outOf, extBox]
    exact ⟨-1, rfl, by omega, by omega, by omega⟩
  have w2 : IntKind.i64.wrap (left - (l.length : Int) - (m.length : Int)) = left - (l.length : Int) - (m.length : Int) := wrap64 (by omega) (by omega)
  by_cases hn2 : left - (l.length : Int) - (m.length : Int) < 0
  · simp [q8, wp_seq, wp_region, wp_cond, wp_block, wp_ret, wp_skip, wp_exit, wpo_cons, wpo_nil, stepG, step, onSome, X.ev, upd, S.put, S.setB, S.setT, DV.cells, splice, oneOrAgg, binDV, binInt, binStr, unDV, idxOf, evPath, S.cellAt, C.get, fitK, K.mem, C.isSl, toArgs, toArg, layOuts, RV.dv, K.zero, init, initT, initB, extBox, w1, hn, w2, hn2, finish, mkRes, rvsOf, rvOf, outsOf, outOf, extBox]
    exact ⟨-1, rfl, by omega, by omega, by omega⟩
  obtain ⟨_, c1, a, rfl, a1, a2, a3⟩ := sz29 n _ (left - (l.length : Int) - (m.length : Int)) h3 (by omega) (by omega)
  by_cases ha : a < 0
  · simp [q8, wp_seq, wp_region, wp_cond, wp_block, wp_ret, wp_skip, wp_exit, wpo_cons, wpo_nil, stepG, step, onSome, X.ev, upd, S.put, S.setB, S.setT, DV.cells, splice, oneOrAgg, binDV, binInt, binStr, unDV, idxOf, evPath, S.cellAt, C.get, fitK, K.mem, C.isSl, toArgs, toArg, layOuts, RV.dv, K.zero, init, initT, initB, extBox, w1, hn, w2, hn2, c1, ha, finish, mkRes, rvsOf, rvOf, outsOf, outOf, extBox]
    exact ⟨-1, rfl, by omega, by omega, by omega⟩
  obtain ⟨_, c2, b, rfl, b1, b2, b3⟩ := sz45 n _ a h4 (by omega) (by omega)
  by_cases hb : b < 0
  · simp [q8, wp_seq, wp_region, wp_cond, wp_block, wp_ret, wp_skip, wp_exit, wpo_cons, wpo_nil, stepG, step, onSome, X.ev, upd, S.put, S.setB, S.setT, DV.cells, splice, oneOrAgg, binDV, binInt, binStr, unDV, idxOf, evPath, S.cellAt, C.get, fitK, K.mem, C.isSl, toArgs, toArg, layOuts, RV.dv, K.zero, init, initT, initB, extBox, w1, hn, w2, hn2, c1, ha, c2, hb, finish, mkRes, rvsOf, rvOf, outsOf, outOf, extBox]
    exact ⟨-1, rfl, by omega, by omega, by omega⟩
  simp [q8, wp_seq, wp_region, wp_cond, wp_block, wp_ret, wp_skip, wp_exit, wpo_cons, wpo_nil, stepG, step, onSome, X.ev, upd, S.put, S.setB, S.setT, DV.cells, splice, oneOrAgg, binDV, binInt, binStr, unDV, idxOf, evPath, S.cellAt, C.get, fitK, K.mem, C.isSl, toArgs, toArg, layOuts, RV.dv, K.zero, init, initT, initB, extBox, w1, hn, w2, hn2, c1, ha, c2, hb, finish, mkRes, rvsOf, rvOf, outsOf, outOf, extBox]
  exact ⟨b, rfl, by omega, by omega, fun _ => ⟨by omega, k, l, m, t1, t2, t3, x1, x2, x3, x4, x5, rfl, h1, h2, (a3 (by omega)).2, (b3 (by omega)).2⟩⟩

theorem okStrs.up {r : List (List C)} (h : okStrs B20 r) : okStrs B63 r := ⟨by have := h.1; simp only [B20, B63] at *; omega, h.2⟩
theorem okT.up : ∀ {n : Nat} {cs : List C}, okT B20 n cs → okT B63 n cs
  | 0, _, h => h.elim
  | n + 1, _, h => by
    obtain ⟨k, r1, r3, rfl, h1, h2, h3⟩ := h
    exact ⟨k, r1, r3, rfl, h1.up, by simp only [B20, B63] at *; omega, fun row hr => (h3 row hr).up⟩
theorem okV.up : ∀ {n : Nat} {cs : List C}, okV B20 n cs → okV B63 n cs
  | 0, _, h => h.elim
  | n + 1, _, h => by
    obtain ⟨k, m, l, r1, r5, rfl, h0, h1, h2, h3⟩ := h
    exact ⟨k, m, l, r1, r5, rfl, h0, h1.up, by simp only [B20, B63] at *; omega, fun row hr => (h3 row hr).up⟩

theorem to10 (n : Nat) (cs : List C) (h : okM B20 n cs) : Cal D 10 [.agg cs] = some ⟨.agg cs, []⟩ := by
  obtain ⟨k, l, m, t1, t2, t3, x1, x2, x3, x4, x5, rfl, h1, h2, h3, h4⟩ := h
  have c1 := to31 n _ h3
  have c2 := to46 n _ h4
  refine Cal_of_wp (fn := q10) rfl ?_
  simp [q10, wp_seq, wp_region, wp_cond, wp_block, wp_ret, wp_skip, wp_exit, wpo_cons, wpo_nil, stepG, step, onSome, X.ev, upd, S.put, S.setB, S.setT, DV.cells, splice, oneOrAgg, binDV, binInt, binStr, unDV, idxOf, evPath, S.cellAt, C.get, fitK, K.mem, C.isSl, toArgs, toArg, layOuts, RV.dv, K.zero, init, initT, initB, extBox, c1, c2, finish, mkRes, rvsOf, rvOf, outsOf, outOf, extBox]

theorem eq12 (n : Nat) (cs : List C) (h : okM B20 n cs) : Cal D 12 [.agg cs, .agg cs] = some ⟨.c (.bool true), []⟩ := by
  obtain ⟨k, l, m, t1, t2, t3, x1, x2, x3, x4, x5, rfl, h1, h2, h3, h4⟩ := h
  have c1 := eq34 n _ h3.up
  have c2 := eq47 n _ h4.up
  refine Cal_of_wp (fn := q12) rfl ?_
  simp [q12, wp_seq, wp_region, wp_cond, wp_block, wp_ret, wp_skip, wp_exit, wpo_cons, wpo_nil, stepG, step, onSome, X.ev, upd, S.put, S.setB, S.setT, DV.cells, splice, oneOrAgg, binDV, binInt, binStr, unDV, idxOf, evPath, S.cellAt, C.get, fitK, K.mem, C.isSl, toArgs, toArg, layOuts, RV.dv, K.zero, init, initT, initB, extBox, c1, c2, finish, mkRes, rvsOf, rvOf, outsOf, outOf, extBox]

theorem is9 (n : Nat) (cs : List C) (h : okM B20 n cs) : ∃ b, Cal D 9 [.agg cs] = some ⟨.c (.bool b), []⟩ ∧ Cal D 11 [.agg cs] = some ⟨.c (.bool b), []⟩ := by
  obtain ⟨k, l, m, t1, t2, t3, x1, x2, x3, x4, x5, rfl, h1, h2, h3, h4⟩ := h
  refine ⟨k == 2, ?_, ?_⟩
  · refine Cal_of_wp (fn := q9) rfl ?_
    simp [q9, wp_seq, wp_region, wp_cond, wp_block, wp_ret, wp_skip, wp_exit, wpo_cons, wpo_nil, stepG, step, onSome, X.ev, upd, S.put, S.setB, S.setT, DV.cells, splice, oneOrAgg, binDV, binInt, binStr, unDV, idxOf, evPath, S.cellAt, C.get, fitK, K.mem, C.isSl, toArgs, toArg, layOuts, RV.dv, K.zero, init, initT, initB, extBox, finish, mkRes, rvsOf, rvOf, outsOf, outOf, extBox]
  · refine Cal_of_wp (fn := q11) rfl ?_
    simp [q11, wp_seq, wp_region, wp_cond, wp_block, wp_ret, wp_skip, wp_exit, wpo_cons, wpo_nil, stepG, step, onSome, X.ev, upd, S.put, S.setB, S.setT, DV.cells, splice, oneOrAgg, binDV, binInt, binStr, unDV, idxOf, evPath, S.cellAt, C.get, fitK, K.mem, C.isSl, toArgs, toArg, layOuts, RV.dv, K.zero, init, initT, initB, extBox, finish, mkRes, rvsOf, rvOf, outsOf, outOf, extBox]

theorem law1 (n : Nat) (cs : List C) (h : okM B63 n cs) : Cal D 1 [.agg cs] = some ⟨.c (.bool true), []⟩ := by
  obtain ⟨_, c1, a, rfl, a1, a2, a3⟩ := sz8 n cs 1048576 h (by omega) (by omega)
  refine Cal_of_wp (fn := q1) rfl ?_
  by_cases ha : a < 0
  · obtain ⟨k, l, m, t1, t2, t3, x1, x2, x3, x4, x5, rfl, h1, h2, h3, h4⟩ := h
    simp [q1, wp_seq, wp_region, wp_cond, wp_block, wp_ret, wp_skip, wp_exit, wpo_cons, wpo_nil, stepG, step, onSome, X.ev, upd, S.put, S.setB, S.setT, DV.cells, splice, oneOrAgg, binDV, binInt, binStr, unDV, idxOf, evPath, S.cellAt, C.get, fitK, K.mem, C.isSl, toArgs, toArg, layOuts, RV.dv, K.zero, init, initT, initB, extBox, c1, ha, finish, mkRes, rvsOf, rvOf, outsOf, outOf, extBox]
  have h' := (a3 (by omega)).2
  have c2 := to10 n cs h'
  have c3 := eq12 n cs h'
  obtain ⟨b, c4, c5⟩ := is9 n cs h'
  obtain ⟨k, l, m, t1, t2, t3, x1, x2, x3, x4, x5, rfl, h1, h2, h3, h4⟩ := h
  simp [q1, wp_seq, wp_region, wp_cond, wp_block, wp_ret, wp_skip, wp_exit, wpo_cons, wpo_nil, stepG, step, onSome, X.ev, upd, S.put, S.setB, S.setT, DV.cells, splice, oneOrAgg, binDV, binInt, binStr, unDV, idxOf, evPath, S.cellAt, C.get, fitK, K.mem, C.isSl, toArgs, toArg, layOuts, RV.dv, K.zero, init, initT, initB, extBox, c1, ha, c2, c3, c4, c5, finish, mkRes, rvsOf, rvOf, outsOf, outOf, extBox]
end Go.Opt
