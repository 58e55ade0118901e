/- A small language, its meaning on data, a check, and why the check is sound: part 2. -/
import Derived.Test.YtioopdicoidmcaaOA
import Derived.Laws.Strings2
import Derived.Laws.BytesArg
import Derived.Deep.MidRow
import Derived.Laws.MakeOwn
import Derived.Deep.Upon
set_option linter.all false
/- Each operation, by itself: copies, parts, loads, addresses. -/
set_option linter.unusedVariables false
namespace Go.Opt
open Go.RowKit

section
variable {P : Program} {F : Frm} {s : SS} {σ : S} {a : Act} {w : World} {g : Gh} {Φ : Cl'} {G : Nat → Option Sg} {ro : List Nat} {gd : Option (Nat × Bool)} {σ1 : S} {s1 : SS}

/-- A value that is a copy of what lies at a place. -/
theorem Inv.putA (h : Inv F s σ a w g) {d : Option Nat} (hd : ∀ k, d = some k → k < F.n) {m : M} {dv : DV} {v : Value} {r : Place} {l : PathX} (hT : TOK (s.cx w g) m dv v) (hm : ∀ e ∈ m.deps, s.U e = true)
    (ha : dv ≠ .undef → AlOK s σ a w g v dv r l) : Inv F (s.putA d m (some (r, l))) (σ.put d dv) (a.put d v) w g := by
  cases d with
  | none => exact h
  | some d =>
    have hds : d < a.tmps.size := by rw [h.size]; exact hd d rfl
    refine h.put_gen (hd d rfl) (s' := s.putA (some d) m (some (r, l))) rfl rfl rfl rfl hT hm (fun k q gd hk => .inl (cutT_p s d k q gd hk)) fun k p q hk => ?_
    simp only [SS.putA] at hk
    by_cases hkd : k = d
    · subst hkd
      rw [upd_same] at hk
      split at hk
      · cases hk
      · rename_i hn
        simp only [not_or] at hn
        cases hk
        exact .inr ⟨rfl, fun hne => (ha hne).put hds rfl rfl rfl hn.1 hn.2⟩
    · rw [upd_ne _ _ hkd] at hk
      exact .inl (cutT_a s d k p q hk)

theorem CellOK.weaken {x : Cx} {v : Value} {c : C} {m m' : CM} (h : CellOK x v c m) (hd : ∀ e ∈ m.deps, e ∈ m'.deps) (h2 : 2 ≤ m'.own → 2 ≤ m.own) (h1 : m'.own = 1 ∨ m'.own = 3 → (m.own = 1 ∨ m.own = 3) ∧ m.deps.head? = m'.deps.head?) : CellOK x v c m' := by
  refine ⟨h.1, fun hal => ?_⟩
  have hal' : alive x.L m = true := by
    simp only [alive, List.all_eq_true] at hal ⊢
    exact fun e he => hal e (hd e he)
  obtain ⟨hr, f1, f2, f3⟩ := h.2 hal'
  refine ⟨hr, fun b hb => ⟨(f1 b hb).1, fun e he hbe => hd e ((f1 b hb).2.1 e he hbe), (f1 b hb).2.2⟩, fun ho => ?_, fun ho b r hF => ?_⟩
  · obtain ⟨n1, n2⟩ := f2 (h2 ho)
    exact ⟨n1, fun b hb => let ⟨e, he, hbe⟩ := n2 b hb; ⟨e, hd e he, hbe⟩⟩
  · obtain ⟨ho', hh⟩ := h1 ho
    obtain ⟨n1, e, l, hl, hbe⟩ := f3 ho' b r hF
    rw [hl] at hh
    cases hm' : m'.deps with
    | nil => rw [hm'] at hh; simp at hh
    | cons e' l' => rw [hm'] at hh; simp at hh; subst hh; exact ⟨n1, e, l', rfl, hbe⟩

theorem CellsOK.sub {x : Cx} {vs : List Value} {cs : List C} {ms : List CM} (h : CellsOK x vs cs ms) (off n : Nat) (hl : off + n ≤ ms.length) : CellsOK x ((vs.drop off).take n) ((cs.drop off).take n) ((ms.drop off).take n) := by
  have hget : ∀ {α : Type} (l : List α) (j : Nat) (y : α), ((l.drop off).take n)[j]? = some y → l[off + j]? = some y := by
    intro α l j y hy
    rw [List.getElem?_take] at hy
    split at hy
    · rw [List.getElem?_drop] at hy; exact hy
    · cases hy
  refine ⟨by simp [h.lenV], by simp [h.lenC], fun j v c m hv hc hm => h.each (off + j) v c m (hget _ _ _ hv) (hget _ _ _ hc) (hget _ _ _ hm), ?_⟩
  intro i j v v' c c' m m' hij hv hc hm hv' hc' hm'
  exact h.apart (off + i) (off + j) v v' c c' m m' (by omega) (hget _ _ _ hv) (hget _ _ _ hc) (hget _ _ _ hm) (hget _ _ _ hv') (hget _ _ _ hc') (hget _ _ _ hm')

/-- The value of some cells: a struct's, or one cell's. -/
def cellsV (agg : Bool) (vs : List Value) : Value := if agg then .agg vs.toArray else vs.headD undef

theorem TOK.cells {x : Cx} {agg : Bool} {vs : List Value} {cs : List C} {ms : List CM} {dv : DV} {m : M} (h : CellsOK x vs cs ms) (hc : oneOrAgg agg cs = some dv) (hm : oneOrAggM agg ms = some m) :
    TOK x m dv (cellsV agg vs) ∧ (∀ e ∈ m.deps, ∃ q ∈ ms, e ∈ q.deps) ∧ dv ≠ .undef := by
  cases agg with
  | true =>
    simp only [oneOrAgg, oneOrAggM, if_true, Option.some.injEq] at hc hm
    subst hc; subst hm
    refine ⟨?_, ?_, by simp⟩
    · simp only [cellsV, if_true]
      exact TOK.agg (by simpa using h)
    · simp only [M.deps, List.mem_flatMap]; exact fun e he => he
  | false =>
    simp only [oneOrAgg, oneOrAggM, Bool.false_eq_true, if_false] at hc hm
    match cs, hc, ms, hm, vs, h with
    | [c], hc, [q], hm, [v], h =>
      cases hc; cases hm
      refine ⟨?_, ?_, by simp⟩
      · simp only [cellsV, Bool.false_eq_true, if_false, List.headD_cons]
        exact TOK.cell h.of_one
      · simp only [M.deps]; exact fun e he => ⟨q, by simp, he⟩
    | [c], hc, [q], hm, [], h => exact absurd h.lenV (by simp)
    | [c], hc, [q], hm, _ :: _ :: _, h => exact absurd h.lenV (by simp)

/-! ### Types -/
theorem kinds_info {t : TypeId} {ks : List K} (h : kinds P t = some ks) : kindsOf P depthK t = some ks ∧ ∃ i z, P.info? t = some i ∧ i.size = ks.length ∧ 0 < ks.length ∧ i.zero = some z ∧ fitsAll ks z.cells.toList = true := by
  unfold kinds at h
  split at h
  · rename_i ks' i hk hi
    split at h
    · rename_i hs
      split at h
      · rename_i z hz
        split at h
        · rename_i hf
          cases h
          exact ⟨hk, i, z, hi, hs.1, hs.2, hz, hf⟩
        · cases h
      · cases h
    · cases h
  · cases h

theorem kinds_underlying {t : TypeId} {ks : List K} (h : kinds P t = some ks) : ∃ d, P.underlying t = some d := by
  obtain ⟨hk, _⟩ := kinds_info h
  have : depthK = 199 + 1 := rfl
  rw [this] at hk
  simp only [kindsOf] at hk
  split at hk <;> first | exact ⟨_, ‹_›⟩ | cases hk

theorem run_isAggT {t : TypeId} {ks : List K} (h : kinds P t = some ks) (w : World) : (isAgg t).run P w = .ok (isAggT P t) w := by
  obtain ⟨d, hd⟩ := kinds_underlying h
  simp only [isAgg, Sem.run_bind, run_underlying hd, Result.andThen_ok, isAggT, hd]
  cases d <;> rfl

theorem run_sizeOfT {t : TypeId} {ks : List K} (h : kinds P t = some ks) (w : World) : (sizeOf t).run P w = .ok ks.length w := by
  obtain ⟨_, i, z, hi, hs, _⟩ := kinds_info h
  simp [sizeOf, typeInfo, hi, hs]

/-- Kinds of a type that is no struct: one cell. -/
theorem kinds_one {t : TypeId} {ks : List K} (h : kinds P t = some ks) (ha : isAggT P t = false) : ks.length = 1 := by
  obtain ⟨hk, _⟩ := kinds_info h
  have : depthK = 199 + 1 := rfl
  rw [this] at hk
  simp only [kindsOf] at hk
  split at hk
  · cases hk; rfl
  · cases hk; rfl
  · cases hk; rfl
  · cases hk; rfl
  · rename_i hu; simp [isAggT, hu] at ha
  · cases hk

/-! ### Copies -/
theorem fin_mov (h : Inv F s σ a w g) {o : Oper} (hd : ∀ k, o.dst = some k → k < F.n) {t : TypeId} {x : Operand} {xx : X} (ho : o.op = .move x ∨ o.op = .assign x) (hx : normX P t x = some xx)
    (h1 : step Φ o.dst (.mov xx) σ = some σ1) (h2 : sstep G ro gd o.dst (.mov xx) s = some s1) : Fin P F o s1 σ1 a w := by
  obtain ⟨hT, hm⟩ := h.x hx
  have hr : (execOp a.eval o).run P w = .ok (.value (a.eval x)) w := by rcases ho with ho | ho <;> simp [execOp, ho]
  have hne : xx.ev σ.t ≠ .undef := by
    intro e
    simp only [step, e] at h1
    cases h1
  have hσ : σ1 = σ.put o.dst (xx.ev σ.t) := by
    have : step Φ o.dst (.mov xx) σ = some (σ.put o.dst (xx.ev σ.t)) := by
      simp only [step]
    rw [this] at h1
    exact (Option.some.inj h1).symm
  subst hσ
  simp only [sstep] at h2
  split at h2
  · cases h2
  · rename_i hdead
    cases xx with
    | t n =>
      simp only at h2
      have hxt : x = .tmp n := by
        unfold normX at hx
        split at hx <;> first | (cases hx; rfl) | (cases hx; done) | skip
        split at hx <;> cases hx
      subst hxt
      simp only [Act.eval] at hT hr
      have hal : AlOK s σ a w g (a.tmps.getD n undef) (σ.t n) (.tmp n) [] := by simp only [AlOK]; exact ⟨trivial, trivial⟩
      cases han : s.a n with
      | none =>
        simp only [han, Option.some.injEq] at h2
        subst h2
        exact ⟨_, _, w, g, hr, .inl rfl, h.putA hd hT hm fun _ => hal⟩
      | some q =>
        obtain ⟨r, l⟩ := q
        simp only [han, Option.some.injEq] at h2
        subst h2
        exact ⟨_, _, w, g, hr, .inl rfl, h.putA hd hT hm fun hne => h.als n r l han hne⟩
    | int k n => simp only [Option.some.injEq] at h2; subst h2; exact ⟨_, _, w, g, hr, .inl rfl, h.putD hd hT hm⟩
    | bool b => simp only [Option.some.injEq] at h2; subst h2; exact ⟨_, _, w, g, hr, .inl rfl, h.putD hd hT hm⟩
    | str l => simp only [Option.some.injEq] at h2; subst h2; exact ⟨_, _, w, g, hr, .inl rfl, h.putD hd hT hm⟩
    | nil z => simp only [Option.some.injEq] at h2; subst h2; exact ⟨_, _, w, g, hr, .inl rfl, h.putD hd hT hm⟩

theorem fin_pick (h : Inv F s σ a w g) {o : Oper} (hd : ∀ k, o.dst = some k → k < F.n) {t : TypeId} {x y z : Operand} {xx yy zz : X} (ho : o.op = .pick x y z) (hx : normX P t x = some xx) (hy : normX P t y = some yy) (hz : normX P t z = some zz)
    (h1 : step Φ o.dst (.pick xx yy zz) σ = some σ1) (h2 : sstep G ro gd o.dst (.pick xx yy zz) s = some s1) : Fin P F o s1 σ1 a w := by
  simp only [sstep] at h2
  split at h2
  · rename_i hs
    simp only [step] at h1
    split at h1
    · rename_i v hv
      have hxv := h.hd hx hs hv
      simp only [Hd] at hxv
      have hr : (execOp a.eval o).run P w = .ok (.value (if v then a.eval y else a.eval z)) w := by simp [execOp, ho, hxv, asBool]
      have hσ : σ1 = σ.put o.dst (if v then yy.ev σ.t else zz.ev σ.t) := by cases v <;> simp at h1 <;> exact h1.symm
      subst hσ
      obtain ⟨hTy, hmy⟩ := h.x hy
      obtain ⟨hTz, hmz⟩ := h.x hz
      split at h2
      · rename_i m n e1 e2
        split at h2
        · rename_i hal
          cases h2
          rw [e1] at hTy hmy
          rw [e2] at hTz hmz
          refine ⟨_, _, w, g, hr, .inl rfl, h.putD hd ?_ ?_⟩
          · cases v
            · simp only [Bool.false_eq_true, if_false]
              rcases hTz.c_shape with e | ⟨c, e, hc⟩
              · rw [e] at hTz ⊢; exact hTz.undef fun q _ => ⟨_, rfl⟩
              · rw [e]; exact TOK.cell (hc.weaken (fun q hq => by simp [hq]) (fun h => by simp only at h; split at h <;> omega) (fun h => by simp only at h; split at h <;> omega))
            · simp only [if_true]
              rcases hTy.c_shape with e | ⟨c, e, hc⟩
              · rw [e] at hTy ⊢; exact hTy.undef fun q _ => ⟨_, rfl⟩
              · rw [e]; exact TOK.cell (hc.weaken (fun q hq => by simp [hq]) (fun h => by simp only at h; split at h <;> omega) (fun h => by simp only at h; split at h <;> omega))
          · simp only [M.deps, List.mem_append] at hmy hmz ⊢
            rintro e (he | he)
            · exact hmy e he
            · exact hmz e he
        · cases h2
      · cases h2
        exact ⟨_, _, w, g, hr, .inl rfl, h.putD hd (by simp [TOK]) (by simp [M.deps])⟩
    · cases h1
  · cases h2

/-! ### Parts -/
theorem extract_toList (vs : Array Value) (off n : Nat) : (vs.extract off (off + n)) = ((vs.toList.drop off).take n).toArray := by
  apply Array.ext'
  simp [List.extract_eq_take_drop]

theorem fin_field (h : Inv F s σ a w g) {o : Oper} (hd : ∀ k, o.dst = some k → k < F.n) {t : TypeId} {x : Operand} {xx : X} {i : Nat} {f : Field} {ks : List K} (ho : o.op = .field t x i) (hx : normX P t x = some xx) (hf : fieldOf P t i = some f) (hk : kinds P f.type = some ks)
    (h1 : step Φ o.dst (.field (isAggT P f.type) f.offset ks.length xx) σ = some σ1) (h2 : sstep G ro gd o.dst (.field (isAggT P f.type) f.offset ks.length xx) s = some s1) : Fin P F o s1 σ1 a w := by
  obtain ⟨hT, hm⟩ := h.x hx
  simp only [sstep] at h2
  split at h2
  · rename_i ms em
    split at h2
    · rename_i hl
      obtain ⟨m, hmm, rfl⟩ := Option.map_eq_some_iff.1 h2
      simp only [step] at h1
      split at h1
      · rename_i xs ex
        split at h1
        · rename_i hl'
          obtain ⟨dv, hdv, rfl⟩ := Option.map_eq_some_iff.1 h1
          rw [em] at hT hm
          rw [ex] at hT
          obtain ⟨vs, hv, hc⟩ := hT.of_agg
          obtain ⟨hT', hdep, _⟩ := TOK.cells (hc.sub f.offset ks.length hl) hdv hmm
          obtain ⟨fs, hu, hfi⟩ : ∃ fs, P.underlying t = some (.struct fs) ∧ fs[i]? = some f := by
            unfold fieldOf at hf
            split at hf
            · rename_i fs hu; exact ⟨fs, hu, hf⟩
            · cases hf
          refine ⟨.value (cellsV (isAggT P f.type) ((vs.toList.drop f.offset).take ks.length)), _, w, g, ?_, .inl rfl, h.putD hd hT' ?_⟩
          · simp only [execOp, ho, Sem.run_bind, Instr.field, run_underlying hu, Result.andThen_ok, hfi, hv, asAgg, Sem.run_pure, part, run_isAggT hk]
            cases hag : isAggT P f.type with
            | true =>
              simp only [if_true, Sem.run_bind, run_sizeOfT hk, Result.andThen_ok, Sem.run_pure, cellsV, extract_toList]
            | false =>
              simp only [Bool.false_eq_true, if_false]
              have h1' := kinds_one hk hag
              have hlv : f.offset < vs.toList.length := by rw [hc.lenV]; omega
              have hget : vs[f.offset]? = some vs.toList[f.offset] := by simp at hlv ⊢
              rw [hget]
              simp only [Sem.run_pure, Result.andThen_ok, cellsV, Bool.false_eq_true, if_false, h1']
              rw [List.drop_eq_getElem_cons hlv]
              simp
          · intro e he
            obtain ⟨q, hq, heq⟩ := hdep e he
            simp only [M.deps, List.mem_flatMap] at hm
            exact hm e ⟨q, List.mem_of_mem_drop (List.mem_of_mem_take hq), heq⟩
        · cases h1
      · cases h1
    · cases h2
  · cases h2

theorem fin_len (h : Inv F s σ a w g) {o : Oper} (hd : ∀ k, o.dst = some k → k < F.n) {t e : TypeId} {x : Operand} {xx : X} (ho : o.op = .call { callee := .builtin .len, args := #[x], argTypes := #[t] }) (hx : normX P t x = some xx)
    (ht : P.underlying t = some (.slice e)) (h1 : step Φ o.dst (.len xx) σ = some σ1) (h2 : sstep G ro gd o.dst (.len xx) s = some s1) : Fin P F o s1 σ1 a w := by
  obtain ⟨hT, hm⟩ := h.x hx
  simp only [sstep] at h2
  split at h2
  · rename_i m em
    cases h2
    rw [em] at hT
    simp only [step] at h1
    split at h1
    · rename_i sz rows ex
      cases h1
      rw [ex] at hT
      obtain ⟨⟨base, cap, hv, _⟩, _⟩ := hT.of_cell
      refine Fin.scalar (v := .int .i64 rows.length) h hd (by simp [Hd]) (by simp) ?_
      simp [execOp, ho, resolve, hv, invoke, builtin, Builtin.len_, run_underlying ht, goInt]
    · cases h1
  · cases h2

theorem fin_slen (h : Inv F s σ a w g) {o : Oper} (hd : ∀ k, o.dst = some k → k < F.n) {t : TypeId} {x : Operand} {xx : X} (ho : o.op = .call { callee := .builtin .len, args := #[x], argTypes := #[t] }) (hx : normX P t x = some xx)
    (ht : P.underlying t = some .string) (h1 : step Φ o.dst (.slen xx) σ = some σ1) (h2 : sstep G ro gd o.dst (.slen xx) s = some s1) : Fin P F o s1 σ1 a w := by
  obtain ⟨hT, hm⟩ := h.x hx
  simp only [sstep] at h2
  split at h2
  · rename_i m em
    cases h2
    rw [em] at hT
    simp only [step] at h1
    split at h1
    · rename_i l ex
      cases h1
      rw [ex] at hT
      have hv : a.eval x = .string ⟨l.toArray⟩ := hT.of_cell.1
      refine Fin.scalar (v := .int .i64 l.length) h hd (by simp [Hd]) (by simp) ?_
      simp [execOp, ho, resolve, hv, invoke, builtin, Builtin.len_, run_underlying ht, goInt, size_mk]
    · cases h1
  · cases h2
end
end Go.Opt
/- Each operation, by itself: slices of slices and strings, components, bytes to strings. -/
set_option linter.unusedVariables false
namespace Go.Opt
open Go.RowKit

section
variable {P : Program} {F : Frm} {s : SS} {σ : S} {a : Act} {w : World} {g : Gh} {Φ : Cl'} {G : Nat → Option Sg} {ro : List Nat} {gd : Option (Nat × Bool)} {σ1 : S} {s1 : SS}

/-- A bound's operand. -/
theorem Inv.bnd (h : Inv F s σ a w g) {x : Option Operand} {X : Option X} (hn : normO P 0 x = some X) (hs : scalarO s X = true) {dflt most n : Nat} (hb : bnd σ.t X dflt most = some n) :
    (x = none ∧ X = none ∧ n = dflt) ∨ ∃ v k i, x = some v ∧ X.isSome = true ∧ a.eval v = .int k i ∧ 0 ≤ i ∧ i.toNat = n ∧ n ≤ most := by
  cases x with
  | none => simp only [normO, Option.some.injEq] at hn; subst hn; simp only [Opt.bnd, Option.some.injEq] at hb; exact .inl ⟨rfl, rfl, hb.symm⟩
  | some v =>
    simp only [normO, Option.map_eq_some_iff] at hn
    obtain ⟨X', hX, rfl⟩ := hn
    simp only [Opt.bnd] at hb
    split at hb
    · rename_i i hi
      split at hb
      · rename_i hle
        cases hb
        obtain ⟨k, hk⟩ := h.idx hX hs hi
        exact .inr ⟨v, k, i, rfl, rfl, hk, hle.1, rfl, by omega⟩
      · cases hb
    · cases hb

theorem Rep.sub {w : World} {base : Option Addr} {cap sz l hh m : Nat} {rows : List (List C)} (h : Rep w (.slice base rows.length cap) (.sl sz rows)) (hlh : l ≤ hh) (hhr : hh ≤ rows.length) (hhm : hh ≤ m) (hm : m ≤ cap) :
    Rep w (.slice (if m = l then base else base.map (·.add (l * sz))) (hh - l) (m - l)) (.sl sz ((rows.take hh).drop l)) ∧
    List.Sublist (fp w (.slice (if m = l then base else base.map (·.add (l * sz))) (hh - l) (m - l)) (.sl sz ((rows.take hh).drop l))) (fp w (.slice base rows.length cap) (.sl sz rows)) ∧
    (∀ b r, fp w (.slice (if m = l then base else base.map (·.add (l * sz))) (hh - l) (m - l)) (.sl sz ((rows.take hh).drop l)) = b :: r → ∃ r', fp w (.slice base rows.length cap) (.sl sz rows) = b :: r') ∧
    Hd (.slice (if m = l then base else base.map (·.add (l * sz))) (hh - l) (m - l)) (.sl sz ((rows.take hh).drop l)) := by
  have hlen : ((rows.take hh).drop l).length = hh - l := by simp; omega
  simp only [Rep] at h
  obtain ⟨base', cap', he, hle, hb⟩ := h
  cases he
  cases base with
  | none =>
    simp only at hb
    subst hb
    have : l = 0 ∧ m = 0 ∧ hh = 0 := by omega
    obtain ⟨rfl, rfl, rfl⟩ := this
    refine ⟨?_, ?_, ?_, ?_⟩
    · simp only [Rep]; exact ⟨none, 0, by simp, by simp, rfl⟩
    · simp [fp]
    · simp [fp]
    · exact ⟨none, 0, by simp, by simp, rfl⟩
  | some ad =>
    by_cases h0 : cap = 0
    · subst h0
      have : l = 0 ∧ m = 0 ∧ hh = 0 := by omega
      obtain ⟨rfl, rfl, rfl⟩ := this
      refine ⟨?_, ?_, ?_, ?_⟩
      · simp only [Rep]; exact ⟨some ad, 0, by simp, by simp, fun hp => absurd hp (by omega)⟩
      · simp [fp]
      · simp [fp]
      · exact ⟨some ad, 0, by simp, by simp, fun hp => absurd hp (by omega)⟩
    obtain ⟨hs, ⟨cells, hc, hcap⟩, hr⟩ := hb (by omega)
    obtain ⟨hr', hsub⟩ := hr.part hlh hhr
    have hms : m * sz ≤ cap * sz := Nat.mul_le_mul_right _ hm
    have hbase : (if m = l then some ad else (some ad).map (·.add (l * sz))) = some (if m = l then ad else ⟨ad.block, ad.off + l * sz, none⟩) := by
      split
      · rfl
      · obtain ⟨bk, of, sp⟩ := ad
        simp only at hs; subst hs
        rw [Option.map_some, Addr.add_mid]
    rw [hbase]
    have hspot : (if m = l then ad else ⟨ad.block, ad.off + l * sz, none⟩ : Addr).spot = none := by split <;> simp [hs]
    have hblock : (if m = l then ad else ⟨ad.block, ad.off + l * sz, none⟩ : Addr).block = ad.block := by split <;> rfl
    refine ⟨?_, ?_, ?_, ?_⟩
    · simp only [Rep]
      refine ⟨some (if m = l then ad else ⟨ad.block, ad.off + l * sz, none⟩), m - l, by rw [hlen], by rw [hlen]; omega, ?_⟩
      refine fun _ => ⟨hspot, ⟨cells, by rw [hblock]; exact hc, ?_⟩, ?_⟩
      · split
        · rename_i e; subst e; simp; omega
        · simp only [Nat.sub_mul]; have : l * sz ≤ m * sz := Nat.mul_le_mul_right _ (by omega); omega
      · split
        · have : (rows.take hh).drop l = [] := by apply List.eq_nil_of_length_eq_zero; omega
          rw [this]; simp [RepRows]
        · exact hr'
    · simp only [fp, hblock, h0, if_false]
      by_cases hz : m - l = 0
      · simp [hz]
      · simp only [hz, if_false]
        split
        · have : (rows.take hh).drop l = [] := by apply List.eq_nil_of_length_eq_zero; omega
          rw [this]; simp [fpRows]
        · exact List.Sublist.cons_cons _ hsub
    · intro b r hbr
      by_cases hz : m - l = 0
      · simp [fp, hz] at hbr
      · simp only [fp, hblock, h0, hz, if_false, List.cons.injEq] at hbr ⊢
        exact ⟨_, hbr.1, rfl⟩
    · exact ⟨some (if m = l then ad else ⟨ad.block, ad.off + l * sz, none⟩), m - l, by rw [hlen], by rw [hlen]; omega, fun _ => hspot⟩

theorem Hd.sub {base : Option Addr} {cap sz l hh m : Nat} {rows : List (List C)} (h : Hd (.slice base rows.length cap) (.sl sz rows)) (hlh : l ≤ hh) (hhr : hh ≤ rows.length) (hhm : hh ≤ m) (hm : m ≤ cap) :
    Hd (.slice (if m = l then base else base.map (·.add (l * sz))) (hh - l) (m - l)) (.sl sz ((rows.take hh).drop l)) := by
  have hlen : ((rows.take hh).drop l).length = hh - l := by simp; omega
  obtain ⟨base', cap', he, hle, hb⟩ := h
  cases he
  cases base with
  | none =>
    simp only at hb
    refine ⟨none, m - l, by rw [hlen]; simp, by rw [hlen]; omega, ?_⟩
    simp only; omega
  | some ad =>
    simp only at hb
    by_cases h0 : cap = 0
    · subst h0
      have : l = 0 ∧ m = 0 ∧ hh = 0 := by omega
      obtain ⟨rfl, rfl, rfl⟩ := this
      exact ⟨some ad, 0, by simp, by simp, fun hp => absurd hp (by omega)⟩
    obtain ⟨bk, of, sp⟩ := ad
    have hb := hb (by omega)
    simp only at hb; subst hb
    refine ⟨_, m - l, by rw [hlen], by rw [hlen]; omega, ?_⟩
    split
    · rename_i he; split at he <;> simp at he
    · rename_i ad he
      split at he
      · simp at he; subst he; exact fun _ => rfl
      · rw [Option.map_some, Addr.add_mid] at he; simp at he; subst he; exact fun _ => rfl

theorem CellOK.sub {x : Cx} {base : Option Addr} {cap sz l hh m : Nat} {rows : List (List C)} {q : CM} (h : CellOK x (.slice base rows.length cap) (.sl sz rows) q) (hlh : l ≤ hh) (hhr : hh ≤ rows.length) (hhm : hh ≤ m) (hm : m ≤ cap) :
    CellOK x (.slice (if m = l then base else base.map (·.add (l * sz))) (hh - l) (m - l)) (.sl sz ((rows.take hh).drop l)) q := by
  refine ⟨h.1.sub hlh hhr hhm hm, fun hal => ?_⟩
  obtain ⟨hR, f1, f2, f3⟩ := h.2 hal
  obtain ⟨r1, r2, r3, _⟩ := hR.sub hlh hhr hhm hm
  refine ⟨r1, fun b hb => f1 b (r2.subset hb), fun ho => ⟨(f2 ho).1.sublist r2, fun b hb => (f2 ho).2 b (r2.subset hb)⟩, fun ho b r e => ?_⟩
  obtain ⟨r', hr'⟩ := r3 b r e
  obtain ⟨n1, n2⟩ := f3 ho b r' hr'
  refine ⟨fun hbr => n1 ?_, n2⟩
  rw [e, hr'] at r2
  have := r2
  simp only [List.cons_sublist_cons] at this
  exact this.subset hbr

theorem run_cellsOf {e : TypeId} (h : (P.info? e).isSome = true) (w : World) : (sizeOf e).run P w = .ok (P.cellsOf e) w := by
  obtain ⟨i, hi⟩ := Option.isSome_iff_exists.1 h
  simp [sizeOf, typeInfo, hi, Program.cellsOf]

theorem fin_slc (h : Inv F s σ a w g) {o : Oper} (hd : ∀ k, o.dst = some k → k < F.n) {t e : TypeId} {x : Operand} {lo hi mx : Option Operand} {xx : X} {l' h' m' : Option X} (ho : o.op = .slice t x lo hi mx) (hx : normX P t x = some xx)
    (hlo : normO P 0 lo = some l') (hhi : normO P 0 hi = some h') (hmx : normO P 0 mx = some m') (ht : P.underlying t = some (.slice e)) (hie : (P.info? e).isSome = true) (hmh : mx.isSome = true → hi.isSome = true)
    (h1 : step Φ o.dst (.slc (P.cellsOf e) xx l' h' m') σ = some σ1) (h2 : sstep G ro gd o.dst (.slc (P.cellsOf e) xx l' h' m') s = some s1) : Fin P F o s1 σ1 a w := by
  obtain ⟨hT, hm⟩ := h.x hx
  simp only [sstep] at h2
  split at h2
  · rename_i q em
    split at h2
    · rename_i hsc
      cases h2
      rw [em] at hT hm
      simp only [step] at h1
      split at h1
      · rename_i sz' rows ex
        rw [ex] at hT
        have hc := hT.of_cell
        split at h1
        · cases h1
        · rename_i hsz
          simp only [ne_eq, Decidable.not_not] at hsz
          subst hsz
          split at h1
          · rename_i m hbm
            split at h1
            · rename_i hh hbh
              split at h1
              · rename_i l hbl
                cases h1
                obtain ⟨base, cap, hv, hcap, hbase⟩ := hc.1
                have hc' := hc
                rw [hv] at hc'
                have B1 := h.bnd hmx hsc.2.2 hbm
                have B2 := h.bnd hhi hsc.2.1 hbh
                have B3 := h.bnd hlo hsc.1 hbl
                have hu : ∀ W, (Instr.sliceAt t (.slice base rows.length cap) (lo.map a.eval) (hi.map a.eval) (mx.map a.eval)).run P W = (Instr.slice t (.slice base rows.length cap) (lo.map a.eval) (hi.map a.eval) (mx.map a.eval)).run P W := by
                  intro W; simp [Instr.sliceAt, run_underlying ht]
                have key : ∃ M, hh ≤ M ∧ M ≤ cap ∧ l ≤ hh ∧ hh ≤ rows.length ∧ (Instr.sliceBounds true rows.length cap (lo.map a.eval) (hi.map a.eval) (mx.map a.eval)).run P w = .ok (l, hh, M) w := by
                  rcases B1 with ⟨rfl, rfl, rfl⟩ | ⟨v1, k1, i1, rfl, hs1, ev1, p1, rfl, b1⟩
                  · refine ⟨cap, ?_⟩
                    rcases B2 with ⟨rfl, rfl, rfl⟩ | ⟨v2, k2, i2, rfl, hs2, ev2, p2, rfl, b2⟩
                    · rcases B3 with ⟨rfl, rfl, rfl⟩ | ⟨v3, k3, i3, rfl, hs3, ev3, p3, rfl, b3⟩
                      · refine ⟨hcap, by omega, by omega, by omega, ?_⟩
                        simp [Instr.sliceBounds]
                      · refine ⟨hcap, by omega, by omega, by omega, ?_⟩
                        simp [Instr.sliceBounds, ev3, run_sliceBound w k3 i3 rows.length _ p3 (by omega)]
                    · simp only [Option.isSome_none, Bool.false_eq_true, if_false] at b2
                      rcases B3 with ⟨rfl, rfl, rfl⟩ | ⟨v3, k3, i3, rfl, hs3, ev3, p3, rfl, b3⟩
                      · refine ⟨by omega, by omega, by omega, by omega, ?_⟩
                        simp [Instr.sliceBounds, ev2, run_sliceBound w k2 i2 cap _ p2 (by omega)]
                      · refine ⟨by omega, by omega, by omega, by omega, ?_⟩
                        simp [Instr.sliceBounds, ev2, run_sliceBound w k2 i2 cap _ p2 (by omega), ev3, run_sliceBound w k3 i3 i2.toNat _ p3 (by omega)]
                  · refine ⟨i1.toNat, ?_⟩
                    rcases B2 with ⟨rfl, rfl, rfl⟩ | ⟨v2, k2, i2, rfl, hs2, ev2, p2, rfl, b2⟩
                    · simp at hmh
                    · rw [if_pos hs1] at b2
                      rcases B3 with ⟨rfl, rfl, rfl⟩ | ⟨v3, k3, i3, rfl, hs3, ev3, p3, rfl, b3⟩
                      · refine ⟨by omega, by omega, by omega, by omega, ?_⟩
                        simp [Instr.sliceBounds, ev1, ev2, run_sliceBound w k1 i1 cap _ p1 (by omega), run_sliceBound w k2 i2 i1.toNat _ p2 (by omega)]
                      · refine ⟨by omega, by omega, by omega, by omega, ?_⟩
                        simp [Instr.sliceBounds, ev1, ev2, run_sliceBound w k1 i1 cap _ p1 (by omega), run_sliceBound w k2 i2 i1.toNat _ p2 (by omega), ev3, run_sliceBound w k3 i3 i2.toNat _ p3 (by omega)]
                obtain ⟨M, q1, q2, q3, q4, hrun⟩ := key
                refine ⟨.value (.slice (if M = l then base else base.map (·.add (l * P.cellsOf e))) (hh - l) (M - l)), _, w, g, ?_, .inl rfl, h.putD hd (TOK.cell (hc'.sub q3 q4 q1 q2)) hm⟩
                simp [execOp, ho, hv, hu, Instr.slice, Sem.run_bind, run_underlying ht, hrun, run_cellsOf hie]
              · cases h1
            · cases h1
          · cases h1
      · cases h1
    · cases h2
  · cases h2

theorem fin_sslc (h : Inv F s σ a w g) {o : Oper} (hd : ∀ k, o.dst = some k → k < F.n) {t : TypeId} {x : Operand} {lo hi : Option Operand} {xx : X} {l' h' : Option X} (ho : o.op = .slice t x lo hi none) (hx : normX P t x = some xx)
    (hlo : normO P 0 lo = some l') (hhi : normO P 0 hi = some h') (ht : P.underlying t = some .string)
    (h1 : step Φ o.dst (.sslc xx l' h') σ = some σ1) (h2 : sstep G ro gd o.dst (.sslc xx l' h') s = some s1) : Fin P F o s1 σ1 a w := by
  simp only [sstep] at h2
  split at h2
  · rename_i hsc
    cases h2
    simp only [step] at h1
    split at h1
    · rename_i str ex
      split at h1
      · rename_i hh hbh
        split at h1
        · rename_i l hbl
          cases h1
          have hv := h.hd hx hsc.1 ex
          simp only [Hd] at hv
          have B2 := h.bnd hhi hsc.2.2 hbh
          have B3 := h.bnd hlo hsc.2.1 hbl
          have hu : ∀ W, (Instr.sliceAt t (.string ⟨str.toArray⟩) (lo.map a.eval) (hi.map a.eval) none).run P W = (Instr.slice t (.string ⟨str.toArray⟩) (lo.map a.eval) (hi.map a.eval) none).run P W := by
            intro W; simp [Instr.sliceAt, run_underlying ht]
          have key : (Instr.sliceBounds false str.length str.length (lo.map a.eval) (hi.map a.eval) none).run P w = .ok (l, hh, str.length) w := by
            rcases B2 with ⟨rfl, rfl, rfl⟩ | ⟨v2, k2, i2, rfl, hs2, ev2, p2, rfl, b2⟩
            · rcases B3 with ⟨rfl, rfl, rfl⟩ | ⟨v3, k3, i3, rfl, hs3, ev3, p3, rfl, b3⟩
              · simp [Instr.sliceBounds]
              · simp [Instr.sliceBounds, ev3, run_sliceBound w k3 i3 str.length _ p3 (by omega)]
            · rcases B3 with ⟨rfl, rfl, rfl⟩ | ⟨v3, k3, i3, rfl, hs3, ev3, p3, rfl, b3⟩
              · simp [Instr.sliceBounds, ev2, run_sliceBound w k2 i2 str.length _ p2 (by omega)]
              · simp [Instr.sliceBounds, ev2, run_sliceBound w k2 i2 str.length _ p2 (by omega), ev3, run_sliceBound w k3 i3 i2.toNat _ p3 (by omega)]
          refine Fin.scalar (v := .string ⟨((str.take hh).drop l).toArray⟩) h hd (by simp [Hd]) (by simp) ?_
          have hext : (ByteArray.mk str.toArray).extract l hh = ByteArray.mk ((str.take hh).drop l).toArray := by
            rw [ByteArray.extract_mk, List.drop_take]
          simp [execOp, ho, hv, hu, Instr.slice, Sem.run_bind, run_underlying ht, size_mk, key, hext]
        · cases h1
      · cases h1
    · cases h1
  · cases h2

/-! ### Components -/
theorem fin_extr (h : Inv F s σ a w g) {o : Oper} (hd : ∀ k, o.dst = some k → k < F.n) {n i : Nat} (ho : o.op = .extract (.tmp n) i)
    (h1 : step Φ o.dst (.extr (.t n) i) σ = some σ1) (h2 : sstep G ro gd o.dst (.extr (.t n) i) s = some s1) : Fin P F o s1 σ1 a w := by
  simp only [sstep, XM] at h2
  split at h2
  · rename_i l em
    split at h2
    · rename_i agg ms hli
      obtain ⟨m, hmm, rfl⟩ := Option.map_eq_some_iff.1 h2
      simp only [step, X.ev] at h1
      split at h1
      · rename_i ds ex
        split at h1
        · rename_i dv hdv
          cases h1
          have hT := h.tmps n
          have hU := h.usedT n
          rw [em] at hT hU
          rw [ex] at hT
          simp only [TOK] at hT
          obtain ⟨ds', vs, he, hv, t1, t2, t3, t4⟩ := hT
          cases he
          have hli' := (List.getElem?_eq_some_iff.1 hli).1
          have hiv : i < vs.toList.length := by rw [t2]; exact hli'
          have hvi : vs.toList[i]? = some vs.toList[i] := List.getElem?_eq_getElem hiv
          have hV := t3 i (agg, ms) dv _ hli hdv hvi
          have hvs : vs[i]? = some vs.toList[i] := by simpa using hvi
          have hT' : TOK (s.cx w g) m dv vs.toList[i] ∧ ∀ e ∈ m.deps, ∃ q ∈ ms, e ∈ q.deps := by
            simp only [VOK] at hV
            cases agg with
            | true =>
              simp only [if_true] at hV
              obtain ⟨cs, vs', rfl, hv', hc⟩ := hV
              simp only [oneOrAggM, if_true, Option.some.injEq] at hmm
              subst hmm
              rw [hv']
              exact ⟨TOK.agg hc, by simp only [M.deps, List.mem_flatMap]; exact fun e he => he⟩
            | false =>
              simp only [Bool.false_eq_true, if_false] at hV
              obtain ⟨c, rfl, hc⟩ := hV
              simp only [oneOrAggM, Bool.false_eq_true, if_false] at hmm
              split at hmm
              · rename_i q
                cases hmm
                exact ⟨TOK.cell hc.of_one, fun e he => ⟨q, by simp, he⟩⟩
              · cases hmm
          refine ⟨.value vs.toList[i], _, w, g, ?_, .inl rfl, h.putD hd hT'.1 ?_⟩
          · simp only [execOp, ho, Act.eval]
            simp only [hv, Instr.extract, hvs, Sem.run_bind, Sem.run_pure, Result.andThen_ok]
          · intro e he
            obtain ⟨q, hq, heq⟩ := hT'.2 e he
            apply hU
            simp only [M.deps, List.mem_flatMap]
            exact ⟨(agg, ms), List.mem_of_getElem? hli, q, hq, heq⟩
        · cases h1
      · cases h1
    · cases h2
  · cases h2
end
end Go.Opt
/- Each operation, by itself: bytes to a string, addresses, loads. -/
set_option linter.unusedVariables false
namespace Go.Opt
open Go.RowKit

section
variable {P : Program} {F : Frm} {s : SS} {σ : S} {a : Act} {w : World} {g : Gh} {Φ : Cl'} {G : Nat → Option Sg} {ro : List Nat} {gd : Option (Nat × Bool)} {σ1 : S} {s1 : SS}

theorem rowsBytes_spec : ∀ {rows : List (List C)} {l : List UInt8}, rowsBytes rows = some l → ∃ xs : List Int, rows = xs.map (fun n => [C.int .u8 n]) ∧ l = xs.map (fun n => UInt8.ofNat n.toNat)
  | [], l, h => by simp only [rowsBytes, Option.some.injEq] at h; exact ⟨[], rfl, h.symm⟩
  | [x] :: r, l, h => by
    simp only [rowsBytes] at h
    split at h
    · rename_i b l' hb hl
      cases h
      obtain ⟨xs, rfl, rfl⟩ := rowsBytes_spec hl
      unfold C.byte at hb
      split at hb
      · rename_i n
        split at hb
        · cases hb; exact ⟨n :: xs, by simp, by simp⟩
        · cases hb
      · cases hb
    · cases h
  | [] :: _, _, h => by simp [rowsBytes] at h
  | (_ :: _ :: _) :: _, _, h => by simp [rowsBytes] at h

theorem cell_of_rowOf {w : World} {b : Nat} {cells : Array Value} (h : rowOf w b = some cells) (o : Nat) : w.cell? ⟨b, o, none⟩ = cells[o]? := by
  unfold rowOf at h
  unfold World.cell?
  split at h
  · rename_i c t f he; cases h; simp [he]
  · cases h

theorem fin_b2s (h : Inv F s σ a w g) {o : Oper} (hd : ∀ k, o.dst = some k → k < F.n) {t u e : TypeId} {x : Operand} {xx : X} (ho : o.op = .convert t u x) (hx : normX P t x = some xx)
    (ht : P.underlying t = some (.slice e)) (he : P.underlying e = some (.int .u8)) (hu : P.underlying u = some .string)
    (h1 : step Φ o.dst (.b2s xx) σ = some σ1) (h2 : sstep G ro gd o.dst (.b2s xx) s = some s1) : Fin P F o s1 σ1 a w := by
  simp only [sstep] at h2
  split at h2
  · rename_i hmem
    cases h2
    simp only [step] at h1
    split at h1
    · rename_i sz rows ex
      obtain ⟨l, hl, rfl⟩ := Option.map_eq_some_iff.1 h1
      obtain ⟨hT, _⟩ := h.x hx
      unfold memX at hmem
      split at hmem
      · rename_i m em
        rw [em, ex] at hT
        obtain ⟨hhd, hall⟩ := hT.of_cell
        obtain ⟨hR, _⟩ := hall hmem
        change Rep w _ _ at hR
        obtain ⟨xs, rfl, rfl⟩ := rowsBytes_spec hl
        simp only [Rep] at hR
        obtain ⟨base, cap, hv, hle, hb⟩ := hR
        refine Fin.scalar (v := .string ⟨(xs.map fun n => UInt8.ofNat n.toNat).toArray⟩) h hd (by simp [Hd]) (by simp) ?_
        have key : (convert t u (.slice base (xs.map (fun n => [C.int .u8 n])).length cap)).run P w = .ok (.string ⟨(xs.map fun n => UInt8.ofNat n.toNat).toArray⟩) w := by
          cases base with
          | none =>
            simp only at hb
            have : xs = [] := by apply List.eq_nil_of_length_eq_zero; simp at hle; omega
            subst this
            have := run_convert_bytes_nil (P := P) w t e ht he 0 cap u hu
            simp only [List.map_nil, List.length_nil]
            rw [this]
            rfl
          | some ad =>
            by_cases h0 : cap = 0
            · subst h0
              have : xs = [] := by simpa using hle
              subst this
              rw [run_convert_bytes_string w t u e (some ad) _ 0 ht he hu]
              simp [Conv.bytesToString, loadCells, loadCellsFrom]
              rfl
            obtain ⟨hs, ⟨cells, hc, hcap⟩, hr⟩ := hb (by omega)
            obtain ⟨bk, of, sp⟩ := ad
            simp only at hs; subst hs
            have := run_convert_bytes_arg (P := P) w t e ht he bk of (xs.map (fun n => [C.int .u8 n])).length cap xs (by simp) (fun i hi => by
              have hi' : i < xs.length := by simpa using hi
              have hget : (xs.map (fun n => [C.int .u8 n]))[i]? = some [C.int .u8 xs[i]] := by simp [hi']
              obtain ⟨hlen, hrow⟩ := hr.get _ _ i _ hget
              simp only [List.length_singleton] at hlen
              subst hlen
              simp only [RepRow, and_true] at hrow
              obtain ⟨cells', v, hc', hv', hR'⟩ := hrow
              simp only [Rep] at hR'
              rw [cell_of_rowOf hc']
              rw [Nat.mul_one] at hv'
              rw [hv', hR']
              simp [List.getD, hi']) u hu
            rw [this]
            simp [strOfNums]
        simp only [List.length_map] at key hv
        simp [execOp, ho, hv, key]
      · cases hmem
    · cases h1
  · cases h2

/-! ### Addresses -/
theorem Inv.holds (h : Inv F s σ a w g) {q : Ptr} {n : Nat} (hh : s.holds gd n q = true) (hg : guardHolds σ gd) : PtrOK s σ a w g (a.tmps.getD n undef) q := by
  unfold SS.holds at hh
  split at hh
  · rename_i r hp
    simp only [beq_iff_eq] at hh; subst hh
    exact h.ptrs n _ _ hp trivial
  · rename_i r k hp
    simp only [Bool.and_eq_true, beq_iff_eq] at hh
    obtain ⟨rfl, rfl⟩ := hh
    exact h.ptrs n _ _ hp hg
  · cases hh

theorem Inv.putP (h : Inv F s σ a w g) {d : Option Nat} (hd : ∀ k, d = some k → k < F.n) {v : Value} {q : Ptr} {g' : Option (Nat × Bool)} (hav : avoids d q g' = true) (hP : guardHolds σ g' → PtrOK s σ a w g v q) :
    Inv F (s.putP d (q, g')) (σ.put d .undef) (a.put d v) w g := by
  cases d with
  | none => simp [avoids] at hav
  | some d =>
    simp only [avoids, Bool.and_eq_true, Bool.not_eq_true', List.contains_eq_mem, decide_eq_false_iff_not] at hav
    have hds : d < a.tmps.size := by rw [h.size]; exact hd d rfl
    refine h.put_gen (hd d rfl) (s' := s.putP (some d) (q, g')) (m := .dead) rfl rfl rfl rfl (by simp [TOK]) (by simp [M.deps]) (fun k r gd' hk => ?_) fun k p r hk => .inl (cutT_a s d k p r hk)
    simp only [SS.putP] at hk
    by_cases hkd : k = d
    · subst hkd
      rw [upd_same] at hk
      cases hk
      exact .inr ⟨rfl, fun hg => (hP ((guardHolds_put hav.2).1 hg)).put hds rfl rfl rfl hav.1⟩
    · rw [upd_ne _ _ hkd] at hk
      exact .inl (cutT_p s d k r gd' hk)

theorem evPath_append (t : Nat → DV) : ∀ (l r : PathX), evPath t (l ++ r) = match evPath t l, evPath t r with | some p, some q => some (p ++ q) | _, _ => none
  | [], r => by simp only [List.nil_append, evPath]; cases evPath t r <;> rfl
  | (x, k) :: l, r => by
    simp only [List.cons_append, evPath, evPath_append t l r]
    cases idxOf (x.ev t) with
    | none => rfl
    | some n =>
      cases evPath t l with
      | none => rfl
      | some p =>
        cases evPath t r with
        | none => by_cases hn : 0 ≤ n <;> simp [hn]
        | some q => by_cases hn : 0 ≤ n <;> simp [hn]

theorem locate_last {w : World} : ∀ (path : Path) {u : Value} {c : C} {i k j b o : Nat}, locate w u c (path ++ [(i, k)]) = some (b, o) → locate w u c (path ++ [(i, k + j)]) = some (b, o + j)
  | [], u, c, i, k, j, b, o, h => by
    simp only [List.nil_append] at h ⊢
    unfold locate at h ⊢
    split at h
    · rename_i a ln cp s rows i' k' rest he
      simp only [List.cons.injEq, Prod.mk.injEq] at he
      obtain ⟨⟨rfl, rfl⟩, rfl⟩ := he
      simp only at h ⊢
      split at h
      · cases h
      · rename_i row hr
        simp only [hr, Option.some.injEq, Prod.mk.injEq] at h ⊢
        exact ⟨h.1, by omega⟩
    · cases h
  | (i0, k0) :: path, u, c, i, k, j, b, o, h => by
    simp only [List.cons_append] at h ⊢
    have e1 : ∃ p q, path ++ [(i, k)] = p :: q := by cases path <;> simp
    have e2 : ∃ p q, path ++ [(i, k + j)] = p :: q := by cases path <;> simp
    obtain ⟨p1, q1, e1⟩ := e1
    obtain ⟨p2, q2, e2⟩ := e2
    rw [e1] at h
    rw [e2]
    unfold locate at h ⊢
    split at h
    · rename_i ad ln cp s rows i' k' rest he
      simp only [List.cons.injEq, Prod.mk.injEq] at he
      obtain ⟨⟨rfl, rfl⟩, rfl⟩ := he
      simp only at h ⊢
      split at h
      · cases h
      · rename_i row hr
        split at h
        · rename_i x cells hx hc
          split at h
          · rename_i u' hu
            rw [← e1] at h
            rw [← e2]
            exact locate_last path h
          · cases h
        · cases h
    · cases h

theorem fin_adr (h : Inv F s σ a w g) {o : Oper} (hd : ∀ k, o.dst = some k → k < F.n) (hg : guardHolds σ gd) {src off : Nat} {q : Ptr}
    (hrun : ∀ b k, a.tmps.getD src undef = .pointer (some ⟨b, k, none⟩) → (execOp a.eval o).run P w = .ok (.value (.pointer (some ⟨b, k + off, none⟩))) w)
    (h1 : step Φ o.dst (.adr src off q) σ = some σ1) (h2 : sstep G ro gd o.dst (.adr src off q) s = some s1) : Fin P F o s1 σ1 a w := by
  simp only [step, Option.some.injEq] at h1
  subst h1
  simp only [sstep] at h2
  split at h2
  · cases h2
  · rename_i r k hp
    simp only [Option.ite_none_right_eq_some, Option.some.injEq] at h2
    · obtain ⟨⟨hr, hk, hav⟩, rfl⟩ := h2
      have hgk : guardHolds σ k := by
        rcases hk with rfl | rfl
        · trivial
        · exact hg
      have hP := h.ptrs src r k hp hgk
      cases r with
      | box b o' =>
        simp only [Option.some.injEq] at hr
        subst hr
        simp only [PtrOK] at hP
        exact ⟨_, _, w, g, hrun _ _ hP.2, .inl rfl, h.putP hd hav fun _ => by simp only [PtrOK]; exact ⟨hP.1, trivial⟩⟩
      | el p l =>
        simp only at hr
        split at hr
        · rename_i x j hl
          simp only [Option.some.injEq] at hr
          subst hr
          have hl' : l = l.dropLast ++ [(x, j)] := by
            obtain ⟨ys, rfl⟩ := List.getLast?_eq_some_iff.1 hl
            simp
          simp only [PtrOK] at hP
          obtain ⟨b, o', hv, hP⟩ := hP
          refine ⟨_, _, w, g, hrun _ _ hv, .inl rfl, h.putP hd hav fun _ => ?_⟩
          simp only [PtrOK]
          refine ⟨b, o' + off, rfl, fun m c u us e1 e2 e3 e4 => ?_⟩
          obtain ⟨path, e5, e6⟩ := hP m c u us e1 e2 e3 e4
          rw [hl', evPath_append] at e5
          rw [evPath_append]
          split at e5
          · rename_i p1 p2 ep1 ep2
            cases e5
            simp only [evPath] at ep2 ⊢
            split at ep2
            · rename_i n l1 en el1
              cases el1
              split at ep2
              · rename_i hn
                cases ep2
                simp only [ep1, hn, if_true]
                exact ⟨_, rfl, locate_last _ e6⟩
              · cases ep2
            · cases ep2
          · cases e5
        · cases hr

theorem take_one {α : Type} {l : List α} {k : Nat} {x : α} (h : (l.drop k).take 1 = [x]) : l[k]? = some x := by
  have : ((l.drop k).take 1)[0]? = some x := by rw [h]; rfl
  rw [List.getElem?_take] at this
  simpa using this

theorem locate_snoc {w : World} : ∀ (path : Path) {u : Value} {c x : C} {b off j k : Nat} {cells : Array Value} {v : Value}, locate w u c path = some (b, off) → c.get 1 path = some [x] → rowOf w b = some cells → cells[off]? = some v →
    locate w u c (path ++ [(j, k)]) = locate w v x [(j, k)]
  | [], u, c, x, b, off, j, k, cells, v, h, _, _, _ => by unfold locate at h; split at h <;> simp_all
  | [(i, k0)], u, c, x, b, off, j, k, cells, v, h, hg, hc, hv => by
    simp only [List.cons_append, List.nil_append]
    unfold locate at h
    split at h
    · rename_i ad ln cp s rows i' k' rest he
      simp only [List.cons.injEq, Prod.mk.injEq] at he
      obtain ⟨⟨rfl, rfl⟩, rfl⟩ := he
      simp only at h
      rw [C.get_one] at hg
      split at h
      · cases h
      · rename_i row hr
        simp only [hr] at hg
        split at hg
        · rename_i hle
          simp only [Option.some.injEq] at hg h
          cases h
          have hx := take_one hg
          conv => lhs; unfold locate
          simp only [hr, hx, hc, hv]
        · cases hg
    · cases h
  | (i, k0) :: p :: q, u, c, x, b, off, j, k, cells, v, h, hg, hc, hv => by
    simp only [List.cons_append]
    unfold locate at h
    split at h
    · rename_i ad ln cp s rows i' k' rest he
      simp only [List.cons.injEq, Prod.mk.injEq] at he
      obtain ⟨⟨rfl, rfl⟩, rfl⟩ := he
      rw [C.get_more] at hg
      split at h
      · cases h
      · rename_i row hr
        simp only [hr] at hg
        simp only at h
        split at h
        · rename_i y cells' hy hc'
          simp only [hy] at hg
          split at h
          · rename_i u' hu
            have := locate_snoc (p :: q) (j := j) (k := k) h hg hc hv
            conv => lhs; unfold locate
            simp only [hr, hy, hc', hu]
            exact this
          · cases h
        · cases h
    · cases h

theorem locate_one {w : World} {ad : Addr} {ln cp sz i k : Nat} {rows : List (List C)} (hi : i < rows.length) : locate w (.slice (some ad) ln cp) (.sl sz rows) [(i, k)] = some (ad.block, ad.off + i * sz + k) := by
  unfold locate
  simp only [List.getElem?_eq_getElem hi]

theorem fin_iadr (h : Inv F s σ a w g) {o : Oper} (hd : ∀ k, o.dst = some k → k < F.n) {t e : TypeId} {x i : Operand} {xx ii : X} {q : Ptr} (ho : o.op = .indexAddr t x i) (hx : normX P t x = some xx) (hi : normX P 0 i = some ii)
    (ht : P.underlying t = some (.slice e)) (hie : (P.info? e).isSome = true)
    (h1 : step Φ o.dst (.iadr (P.cellsOf e) xx ii q) σ = some σ1) (h2 : sstep G ro gd o.dst (.iadr (P.cellsOf e) xx ii q) s = some s1) : Fin P F o s1 σ1 a w := by
  simp only [sstep] at h2
  split at h2
  · rename_i n m em
    simp only [Option.ite_none_right_eq_some, Option.some.injEq] at h2
    obtain ⟨⟨hsc, rfl, hav⟩, rfl⟩ := h2
    simp only [step] at h1
    split at h1
    · rename_i sz' rows j ex ej
      split at h1
      · rename_i hj
        obtain ⟨rfl, hj0, hjl⟩ := hj
        cases h1
        have hT := h.tmps n
        simp only [XM] at em
        simp only [X.ev] at ex
        rw [em, ex] at hT
        obtain ⟨base, cap, hv, hcap, hbase⟩ := hT.of_cell.1
        obtain ⟨ki, hiv⟩ := h.idx hi hsc ej
        have hxt : x = .tmp n := by
          unfold normX at hx
          split at hx <;> first | (cases hx; rfl) | (cases hx; done) | skip
          split at hx <;> cases hx
        subst hxt
        have hjn : j.toNat < rows.length := by omega
        cases base with
        | none => simp only at hbase; omega
        | some ad =>
          obtain ⟨bk, of, sp⟩ := ad
          have hbase := hbase (by omega)
          simp only at hbase; subst hbase
          have hrun : (execOp a.eval o).run P w = .ok (.value (.pointer (some ⟨bk, of + j.toNat * P.cellsOf e, none⟩))) w := by
            have hev : a.eval (.tmp n) = .slice (some ⟨bk, of, none⟩) rows.length cap := hv
            simp [execOp, ho, hev, hiv, Instr.indexAt, asIntOf, run_underlying ht, hj0, hjl, run_cellsOf hie, Addr.add_mid]
          refine ⟨_, _, w, g, hrun, .inl rfl, h.putP hd hav fun _ => ?_⟩
          simp only [PtrOK]
          refine ⟨bk, of + j.toNat * P.cellsOf e, rfl, fun m' c u us e1 e2 e3 e4 => ?_⟩
          have hone : evPath σ.t [(ii, 0)] = some [(j.toNat, 0)] := by simp [evPath, ej, hj0]
          cases ha : s.a n with
          | none =>
            simp only [ha, Option.getD_none, List.nil_append] at e1 e3 e4 ⊢
            simp only [S.cellAt, ex, Option.some.injEq] at e3
            simp only [placeV, Option.some.injEq, List.cons.injEq] at e4
            subst e3
            obtain ⟨rfl, rfl⟩ := e4
            refine ⟨_, hone, ?_⟩
            rw [hv, locate_one hjn]
            rfl
          | some rl =>
            obtain ⟨r, l⟩ := rl
            simp only [ha, Option.getD_some] at e1 e3 e4 ⊢
            have hal := h.als n r l ha (by rw [ex]; simp)
            rw [ex, hv] at hal
            rw [evPath_append, hone]
            cases l with
            | nil =>
              simp only [evPath, List.nil_append]
              refine ⟨_, rfl, ?_⟩
              cases r with
              | tmp t' =>
                simp only [AlOK] at hal
                simp only [S.cellAt, ← hal.2, Option.some.injEq] at e3
                simp only [placeV, ← hal.1, Option.some.injEq, List.cons.injEq] at e4
                subst e3
                obtain ⟨rfl, rfl⟩ := e4
                rw [locate_one hjn]
                rfl
              | box b' j' =>
                simp only [AlOK] at hal
                obtain ⟨_, cells, cs, c1, c2, c3, c4⟩ := hal
                simp only [DV.cells, Option.some.injEq] at c3
                subst c3
                simp only [S.cellAt] at e3
                have hcc := take_one c4
                rw [hcc] at e3
                simp only [Option.some.injEq] at e3
                subst e3
                simp only [placeV, c1, Option.map_some, Option.some.injEq] at e4
                rw [e4] at c2
                simp only [Value.cells, List.size_toArray, List.length_singleton, List.take_succ_cons, List.take_zero, List.cons.injEq, and_true] at c2
                subst c2
                rw [locate_one hjn]
                rfl
            | cons y l =>
              simp only [AlOK] at hal
              obtain ⟨path, b, off, cells, cs, d1, d2, d3, d4, d5, d6⟩ := hal m' c u us e1 e2 e3 e4
              simp only [DV.cells, Option.some.injEq] at d5
              subst d5
              simp only [d1]
              refine ⟨_, rfl, ?_⟩
              have hvv : cells[off]? = some (.slice (some ⟨bk, of, none⟩) rows.length cap) := by
                have := take_one (l := cells.toList) (k := off) (x := .slice (some ⟨bk, of, none⟩) rows.length cap) (by simpa [Value.cells] using d4)
                simpa using this
              rw [locate_snoc path d2 d6 d3 hvv, locate_one hjn]
              rfl
      · cases h1
    · cases h1
  · cases h2
end
end Go.Opt
/- Each operation, by itself: loads. -/
set_option linter.unusedVariables false
namespace Go.Opt
open Go.RowKit

section
variable {P : Program} {F : Frm} {s : SS} {σ : S} {a : Act} {w : World} {g : Gh} {Φ : Cl'} {G : Nat → Option Sg} {ro : List Nat} {gd : Option (Nat × Bool)} {σ1 : S} {s1 : SS}

theorem isAggT_row {t : TypeId} (h : isAggT P t = true) : ∃ d, P.underlying t = some d ∧ d.isRow = true := by
  unfold isAggT at h
  split at h
  · rename_i fs hu; exact ⟨_, hu, rfl⟩
  · rename_i n e hu; exact ⟨_, hu, rfl⟩
  · cases h

theorem run_loadK {t : TypeId} {ks : List K} (hk : kinds P t = some ks) {b off : Nat} {vs : List Value} (hc : w.rangeAt b off vs) (hl : vs.length = ks.length) :
    (Instr.loadAt t (.pointer (some ⟨b, off, none⟩))).run P w = .ok (cellsV (isAggT P t) vs) w := by
  obtain ⟨_, i, z, hi, hs, hpos, _⟩ := kinds_info hk
  cases ha : isAggT P t with
  | true =>
    obtain ⟨d, hu, hd⟩ := isAggT_row ha
    rw [run_loadAt_mid w b off t vs d hc hu hd (by rw [hi, Option.map_some, hs, hl])]
    simp [cellsV]
  | false =>
    have h1 := kinds_one hk ha
    match vs, hl, hc with
    | [], hl, _ => simp [h1] at hl
    | [v], hl, hc =>
      have hcell := hc 0 v rfl
      have hagg := run_isAggT hk w
      rw [ha] at hagg
      simp only [Nat.add_zero] at hcell
      simp [Instr.loadAt, Instr.sureAddr, loadVar, hagg, hcell, cellsV]
    | _ :: _ :: _, hl, _ => simp [h1] at hl

theorem rangeAt_rowOf {w : World} {b : Nat} {cells : Array Value} (h : rowOf w b = some cells) (off n : Nat) : w.rangeAt b off ((cells.toList.drop off).take n) := by
  intro j v hj
  rw [cell_of_rowOf h]
  rw [List.getElem?_take] at hj
  split at hj
  · rw [List.getElem?_drop] at hj; simpa using hj
  · cases hj

theorem rowOf_box {w : World} {b : Nat} {cells : Array Value} {t : TypeId} (h : w.heap[b]? = some (.cells cells t (0, 0))) : rowOf w b = some cells := by
  unfold rowOf; rw [h]

theorem cellsV_cells {agg : Bool} {vs : List Value} (h : agg = false → ∃ v, vs = [v] ∧ v.cells = #[v]) : (cellsV agg vs).cells.toList = vs := by
  cases agg with
  | true => simp [cellsV, Value.cells]
  | false =>
    obtain ⟨v, rfl, hv⟩ := h rfl
    simp [cellsV, hv]

theorem Hd.cells {v : Value} {c : C} (h : Hd v c) : v.cells = #[v] := by
  cases c with
  | sl sz rows => obtain ⟨base, cap, rfl, _⟩ := h; rfl
  | _ => simp only [Hd] at h; subst h; rfl

theorem oneOrAgg_cells {agg : Bool} {cs : List C} {dv : DV} (h : oneOrAgg agg cs = some dv) : dv.cells = some cs := by
  unfold oneOrAgg at h
  split at h
  · cases h; rfl
  · split at h
    · cases h; rfl
    · cases h

theorem fin_ldB (h : Inv F s σ a w g) {o : Oper} (hd : ∀ k, o.dst = some k → k < F.n) (hg : guardHolds σ gd) {t : TypeId} {n b off : Nat} {ks : List K} (ho : o.op = .load t (.tmp n)) (hk : kinds P t = some ks)
    (h1 : step Φ o.dst (.ldB (isAggT P t) ks n b off) σ = some σ1) (h2 : sstep G ro gd o.dst (.ldB (isAggT P t) ks n b off) s = some s1) : Fin P F o s1 σ1 a w := by
  simp only [sstep] at h2
  split at h2
  · rename_i hh
    split at h2
    · rename_i ms hb
      split at h2
      · rename_i hl
        obtain ⟨m, hm, rfl⟩ := Option.map_eq_some_iff.1 h2
        simp only [step] at h1
        split at h1
        · rename_i hl'
          obtain ⟨dv, hdv, rfl⟩ := Option.map_eq_some_iff.1 h1
          have hP := h.holds hh hg
          simp only [PtrOK] at hP
          obtain ⟨_, cells, ty, hheap, hC⟩ := h.boxes b ms hb
          have hrow := rowOf_box hheap
          have hsub := hC.sub off ks.length hl
          obtain ⟨hT, hdep, hne⟩ := TOK.cells hsub hdv hm
          have hvl : ((cells.toList.drop off).take ks.length).length = ks.length := by
            have := hC.lenV; simp at this ⊢; omega
          have hrun := run_loadK (w := w) hk (rangeAt_rowOf hrow off ks.length) hvl
          refine ⟨_, _, w, g, ?_, .inl rfl, h.putA hd hT (fun e he => ?_) fun _ => ?_⟩
          · have hev : a.eval (.tmp n) = _ := hP.2
            simp only [execOp, ho, hev, Sem.run_bind, hrun, Result.andThen_ok, Sem.run_pure]
          · obtain ⟨q, hq, heq⟩ := hdep e he
            exact h.usedB b ms hb q (List.mem_of_mem_drop (List.mem_of_mem_take hq)) e heq
          · simp only [AlOK]
            have hcv : (cellsV (isAggT P t) ((cells.toList.drop off).take ks.length)).cells.toList = (cells.toList.drop off).take ks.length := by
              refine cellsV_cells fun hag => ?_
              have h1k := kinds_one hk hag
              rw [h1k] at hvl hsub ⊢
              obtain ⟨v, hv⟩ := List.length_eq_one_iff.1 hvl
              obtain ⟨c, hc⟩ := List.length_eq_one_iff.1 (hsub.lenC.trans (hsub.lenV.symm.trans hvl))
              obtain ⟨q, hq⟩ := List.length_eq_one_iff.1 (hsub.lenV.symm.trans hvl)
              rw [hv, hc, hq] at hsub
              exact ⟨v, hv, hsub.of_one.1.cells⟩
            refine ⟨by rw [hb]; rfl, cells, _, hrow, ?_, oneOrAgg_cells hdv, ?_⟩
            · have hsz : (cellsV (isAggT P t) ((cells.toList.drop off).take ks.length)).cells.size = ks.length := by rw [← Array.length_toList, hcv, hvl]
              rw [hcv, hsz]
            · have : (List.take ks.length (List.drop off (σ.b b))).length = ks.length := by simp; omega
              rw [this]
        · cases h1
      · cases h2
    · cases h2
  · cases h2

/-! ### A load through a path -/
theorem Inv.usedAt (h : Inv F s σ a w g) {p : Place} {m : CM} (hm : modeAt s p = some m) : ∀ e ∈ m.deps, s.U e = true := by
  cases p with
  | tmp t =>
    simp only [modeAt] at hm
    split at hm
    · rename_i m' e1
      cases hm
      have := h.usedT t
      rw [e1] at this
      exact this
    · cases hm
  | box b j =>
    simp only [modeAt] at hm
    split at hm
    · rename_i ms e1
      exact h.usedB b ms e1 m (List.mem_of_getElem? hm)
    · cases hm

theorem fps_one {w : World} : ∀ {vs : List Value} {cs : List C} {j : Nat} {v : Value} {c : C}, vs[j]? = some v → cs[j]? = some c → vs.length = cs.length → List.Sublist (fp w v c) (fps w vs cs)
  | [], _, _, _, _, h, _, _ => by simp at h
  | _ :: _, [], _, _, _, _, h, _ => by simp at h
  | v0 :: vs, c0 :: cs, 0, v, c, h1, h2, _ => by simp at h1 h2; subst h1; subst h2; simp only [fps]; exact List.sublist_append_left _ _
  | v0 :: vs, c0 :: cs, j + 1, v, c, h1, h2, hl => by
    simp only [List.getElem?_cons_succ] at h1 h2
    simp only [fps]
    exact (fps_one h1 h2 (by simpa using hl)).trans (List.sublist_append_right _ _)

theorem fps_two {w : World} : ∀ {vs : List Value} {cs : List C} {i j : Nat} {v v' : Value} {c c' : C}, i < j → vs[i]? = some v → cs[i]? = some c → vs[j]? = some v' → cs[j]? = some c' → vs.length = cs.length → List.Sublist (fp w v c ++ fp w v' c') (fps w vs cs)
  | [], _, _, _, _, _, _, _, _, h, _, _, _, _ => by simp at h
  | _ :: _, [], _, _, _, _, _, _, _, _, h, _, _, _ => by simp at h
  | v0 :: vs, c0 :: cs, 0, j + 1, v, v', c, c', _, h1, h2, h3, h4, hl => by
    simp at h1 h2; subst h1; subst h2
    simp only [List.getElem?_cons_succ] at h3 h4
    simp only [fps]
    exact List.Sublist.append (List.Sublist.refl _) (fps_one h3 h4 (by simpa using hl))
  | v0 :: vs, c0 :: cs, i + 1, j + 1, v, v', c, c', hij, h1, h2, h3, h4, hl => by
    simp only [List.getElem?_cons_succ] at h1 h2 h3 h4
    simp only [fps]
    exact (fps_two (by omega) h1 h2 h3 h4 (by simpa using hl)).trans (List.sublist_append_right _ _)

theorem fitK_get : ∀ {ks : List K} {cs : List C} {j : Nat} {k : K} {c : C}, fitK ks cs = true → ks[j]? = some k → cs[j]? = some c → k.mem = true ∨ c.isSl = false
  | [], _, _, _, _, _, h, _ => by simp at h
  | _ :: _, [], _, _, _, _, _, h => by simp at h
  | k :: ks, c :: cs, 0, k', c', h, h1, h2 => by
    simp at h1 h2; subst h1; subst h2
    simp only [fitK, Bool.and_eq_true, Bool.or_eq_true, Bool.not_eq_true'] at h
    exact h.1
  | k :: ks, c :: cs, j + 1, k', c', h, h1, h2 => by
    simp only [fitK, Bool.and_eq_true] at h
    simp only [List.getElem?_cons_succ] at h1 h2
    exact fitK_get h.2 h1 h2

theorem fp_flat {w : World} {v : Value} {c : C} (h : c.isSl = false) : fp w v c = [] := by
  cases c <;> first | rfl | simp [C.isSl] at h

/-- Cells that lie side by side, all under one mode. -/
theorem cells_of_reps {x : Cx} {vs : List Value} {cs : List C} {ks : List K} {m : CM} (hR : Reps x.w vs cs) (hf : fitK ks cs = true) (hvl : vs.length = ks.length) (hcl : cs.length = ks.length) (hal : alive x.L m = true)
    (h1 : ∀ b ∈ fps x.w vs cs, (∀ k, x.bx k = true → b ≠ x.g.bet k) ∧ (∀ e, x.L e = true → b ∈ x.g.lam e → e ∈ m.deps) ∧ x.g.rch b)
    (h2 : 2 ≤ m.own → (fps x.w vs cs).Nodup ∧ ∀ b ∈ fps x.w vs cs, ∃ e ∈ m.deps, b ∈ x.g.lam e) :
    CellsOK x vs cs (ks.map fun k => if k.mem then (⟨m.deps, if 2 ≤ m.own then 2 else 0⟩ : CM) else .free) := by
  have hl : vs.length = cs.length := hvl.trans hcl.symm
  refine ⟨by simp [hvl], by simp [hcl], fun j v c q hv hc hq => ?_, fun i j v v' c c' q q' hij hv hc hq hv' hc' hq' hown hown' _ _ => ?_⟩
  · obtain ⟨k, hk, rfl⟩ : ∃ k, ks[j]? = some k ∧ (if k.mem then (⟨m.deps, if 2 ≤ m.own then 2 else 0⟩ : CM) else .free) = q := by
      rw [List.getElem?_map] at hq
      exact Option.map_eq_some_iff.1 hq
    have hr := hR.get j v c hv hc
    refine ⟨hr.hd, fun _ => ⟨hr, ?_⟩⟩
    have hs := fps_one (w := x.w) hv hc hl
    cases hkm : k.mem with
    | false =>
      have hflat := (fitK_get hf hk hc).resolve_left (by simp [hkm])
      rw [fp_flat hflat]
      exact FpOK.nil x _
    | true =>
      simp only [if_true]
      refine ⟨fun b hb => h1 b (hs.subset hb), fun ho => ?_, fun ho => ?_⟩
      · have ho' : 2 ≤ m.own := by
          by_cases h : 2 ≤ m.own
          · exact h
          · simp [h] at ho
        exact ⟨(h2 ho').1.sublist hs, fun b hb => (h2 ho').2 b (hs.subset hb)⟩
      · simp only at ho
        split at ho <;> omega
  · obtain ⟨k, hk, rfl⟩ : ∃ k, ks[i]? = some k ∧ (if k.mem then (⟨m.deps, if 2 ≤ m.own then 2 else 0⟩ : CM) else .free) = q := by
      rw [List.getElem?_map] at hq
      exact Option.map_eq_some_iff.1 hq
    obtain ⟨k', hk', rfl⟩ : ∃ k, ks[j]? = some k ∧ (if k.mem then (⟨m.deps, if 2 ≤ m.own then 2 else 0⟩ : CM) else .free) = q' := by
      rw [List.getElem?_map] at hq'
      exact Option.map_eq_some_iff.1 hq'
    intro b hb hb'
    cases hkm : k.mem with
    | false =>
      rw [fp_flat ((fitK_get hf hk hc).resolve_left (by simp [hkm]))] at hb
      cases hb
    | true =>
      simp only [hkm, if_true] at hown
      have ho' : 2 ≤ m.own := by
        by_cases h : 2 ≤ m.own
        · exact h
        · simp [h] at hown
      have hn := (h2 ho').1
      rcases Nat.lt_or_gt_of_ne hij with h | h
      · have := hn.sublist (fps_two (w := x.w) h hv hc hv' hc' hl)
        rw [List.nodup_append] at this
        exact this.2.2 b hb b hb' rfl
      · have := hn.sublist (fps_two (w := x.w) h hv' hc' hv hc hl)
        rw [List.nodup_append] at this
        exact this.2.2 b hb' b hb rfl

theorem Inv.placeV (h : Inv F s σ a w g) {p : Place} {m : CM} {c : C} (hm : modeAt s p = some m) (hc : σ.cellAt p = some c) : ∃ u us, placeV w g a p = some (u :: us) ∧ CellOK (s.cx w g) u c m := by
  cases p with
  | tmp t =>
    simp only [modeAt] at hm
    simp only [S.cellAt] at hc
    split at hm
    · rename_i m' e1
      cases hm
      split at hc
      · rename_i c' e2
        cases hc
        have hT := h.tmps t
        rw [e1, e2] at hT
        exact ⟨_, [], rfl, hT.of_cell⟩
      · cases hc
    · cases hm
  | box b j =>
    simp only [modeAt] at hm
    simp only [S.cellAt] at hc
    split at hm
    · rename_i ms e1
      obtain ⟨_, cells, ty, hheap, hC⟩ := h.boxes b ms e1
      have hj : j < cells.toList.length := by
        rw [hC.lenV]; exact (List.getElem?_eq_some_iff.1 hm).1
      refine ⟨cells.toList[j], cells.toList.drop (j + 1), ?_, hC.each j _ c m (List.getElem?_eq_getElem hj) hc hm⟩
      simp only [Opt.placeV, rowOf_box hheap, Option.map_some]
      rw [List.drop_eq_getElem_cons hj]
    · cases hm

theorem fin_ldE (h : Inv F s σ a w g) {o : Oper} (hd : ∀ k, o.dst = some k → k < F.n) (hg : guardHolds σ gd) {t : TypeId} {n : Nat} {p : Place} {q : PathX} {ks : List K} (ho : o.op = .load t (.tmp n)) (hk : kinds P t = some ks)
    (h1 : step Φ o.dst (.ldE (isAggT P t) ks n p q) σ = some σ1) (h2 : sstep G ro gd o.dst (.ldE (isAggT P t) ks n p q) s = some s1) : Fin P F o s1 σ1 a w := by
  simp only [sstep] at h2
  split at h2
  · rename_i hh
    split at h2
    · rename_i m hm
      split at h2
      · rename_i hal
        obtain ⟨md, hmd, rfl⟩ := Option.map_eq_some_iff.1 h2
        simp only [step] at h1
        split at h1
        · rename_i c path hc hpath
          split at h1
          · rename_i cs hcs
            split at h1
            · rename_i hfit
              obtain ⟨dv, hdv, rfl⟩ := Option.map_eq_some_iff.1 h1
              obtain ⟨u, us, hpl, hcell⟩ := h.placeV hm hc
              have hP := h.holds hh.1 hg
              simp only [PtrOK] at hP
              obtain ⟨b, off, hv, hP⟩ := hP
              obtain ⟨path', hp1, hp2⟩ := hP m c u us hm hal hc hpl
              rw [hpath] at hp1
              cases hp1
              obtain ⟨hR, f1, f2, f3⟩ := hcell.2 hal
              change Rep w u c at hR
              obtain ⟨b', off', g1, g2, g3, g4, ⟨cells, g5, g6⟩, A, B, g7⟩ := get_ok path u c cs hR hcs
              rw [hp2] at g1
              cases g1
              have hreps := RepRow.reps g5 cs off g2 (.inl (by omega))
              rw [g4] at hreps
              have hvl : ((cells.toList.drop off).take ks.length).length = ks.length := by simp; omega
              have hrun := run_loadK (w := w) hk (rangeAt_rowOf g5 off ks.length) hvl
              -- the cells, with their modes
              have hsubfp : ∀ b ∈ fps w ((cells.toList.drop off).take ks.length) cs, b ∈ fp w u c := by
                intro b hb; rw [g7, hreps.2]; simp [hb]
              have hC : CellsOK (s.cx w g) ((cells.toList.drop off).take ks.length) cs (ks.map fun k => if k.mem then (⟨m.deps, if 2 ≤ m.own then 2 else 0⟩ : CM) else .free) := by
                refine cells_of_reps hreps.1 hfit hvl (by omega) hal ?_ ?_
                · intro b hb
                  exact f1 b (hsubfp b hb)
                · intro ho
                  obtain ⟨hn, hm2⟩ := f2 ho
                  refine ⟨?_, fun b hb => hm2 b (hsubfp b hb)⟩
                  have : (A ++ fpRow w b off cs ++ B).Nodup := by rw [← g7]; exact hn
                  rw [hreps.2] at this
                  exact (this.sublist ((List.sublist_append_right _ _).trans (List.sublist_append_left _ _)))
              obtain ⟨hT, hdep, hne⟩ := TOK.cells hC hdv hmd
              refine ⟨_, _, w, g, ?_, .inl rfl, h.putA hd hT (fun e he => ?_) fun _ => ?_⟩
              · have hev : a.eval (.tmp n) = _ := hv
                simp only [execOp, ho, hev, Sem.run_bind, hrun, Result.andThen_ok, Sem.run_pure]
              · obtain ⟨q', hq', heq⟩ := hdep e he
                obtain ⟨k, _, rfl⟩ := List.mem_map.1 hq'
                split at heq
                · exact h.usedAt hm e heq
                · simp [CM.free] at heq
              · have hcv : (cellsV (isAggT P t) ((cells.toList.drop off).take ks.length)).cells.toList = (cells.toList.drop off).take ks.length := by
                  refine cellsV_cells fun hag => ?_
                  have h1k := kinds_one hk hag
                  obtain ⟨v, hv⟩ := List.length_eq_one_iff.1 (hvl.trans h1k)
                  obtain ⟨c1, hc1⟩ := List.length_eq_one_iff.1 (g4.trans h1k)
                  have hr1 := hreps.1
                  rw [hv, hc1] at hr1
                  simp only [Reps] at hr1
                  exact ⟨v, hv, hr1.1.hd.cells⟩
                have hsz : (cellsV (isAggT P t) ((cells.toList.drop off).take ks.length)).cells.size = ks.length := by rw [← Array.length_toList, hcv, hvl]
                have hqne : q ≠ [] := by
                  rintro rfl
                  simp only [evPath, Option.some.injEq] at hpath
                  subst hpath
                  cases c <;> simp [C.get] at hcs
                cases q with
                | nil => exact absurd rfl hqne
                | cons y q =>
                  simp only [AlOK]
                  intro m' c' u' us' e1 e2 e3 e4
                  rw [hm] at e1; cases e1
                  rw [hc] at e3; cases e3
                  rw [hpl] at e4; cases e4
                  refine ⟨path, b, off, cells, cs, hpath, hp2, g5, by rw [hcv, hsz], oneOrAgg_cells hdv, by rw [g4]; exact hcs⟩
            · cases h1
          · cases h1
        · cases h1
      · cases h2
    · cases h2
  · cases h2
end
end Go.Opt
/- The world moves on: blocks are made, classes die and come to be, boxes are written. What is not touched is as it was. -/
set_option linter.unusedVariables false
namespace Go.Opt
open Go.RowKit

/-- 'T': the variables that are touched; 'B': the boxes whose cells are; 'N': the boxes that are made anew. -/
structure Mv (F : Frm) (s s1 : SS) (σ σ1 : S) (a a1 : Act) (w w1 : World) (g g1 : Gh) (T B N : Nat → Prop) : Prop where
  size : w.heap.size ≤ w1.heap.size
  os : w1.os = w.os
  tape : w1.tape = w.tape
  output : w1.output = w.output
  rch : g1.rch = g.rch
  old : ∀ e, s1.L e = true → s.U e = true → s.L e = true ∧ g1.lam e = g.lam e
  new : ∀ e, s1.L e = true → s.U e = false → ∀ b ∈ g1.lam e, w.heap.size ≤ b ∨ ∃ e', s.L e' = true ∧ s1.L e' = false ∧ b ∈ g.lam e'
  heap : ∀ b, b < w.heap.size → (∀ e, s.L e = true → s1.L e = false → b ∉ g.lam e) → (∀ k, (s.b k).isSome = true → B k → b ≠ g.bet k) → w1.heap[b]? = w.heap[b]?
  boxOld : ∀ k, (s1.b k).isSome = true → ¬ N k → (s.b k).isSome = true ∧ g1.bet k = g.bet k
  boxNew : ∀ k, (s1.b k).isSome = true → N k → w.heap.size ≤ g1.bet k
  bSub : ∀ k, B k → N k ∨ (s1.b k).isSome = true
  tSame : ∀ k, ¬ T k → s1.t k = s.t k ∧ σ1.t k = σ.t k ∧ a1.tmps.getD k undef = a.tmps.getD k undef
  bSame : ∀ k, ¬ B k → ¬ N k → s1.b k = s.b k ∧ σ1.b k = σ.b k
  uSub : ∀ e, s.U e = true → s1.U e = true

theorem locate_nil (w : World) (u : Value) (c : C) : locate w u c [] = none := by
  unfold locate
  split
  · rename_i h; cases h
  · rfl
theorem locate_flat (w : World) (u : Value) {c : C} (p : Path) (h : c.isSl = false) : locate w u c p = none := by
  unfold locate
  split
  · simp [C.isSl] at h
  · rfl

theorem locate_frame {w w1 : World} : ∀ (path : Path) (c : C) (u : Value), Rep w u c → (∀ b ∈ fp w u c, w1.heap[b]? = w.heap[b]?) → locate w1 u c path = locate w u c path
  | [], c, u, _, _ => by rw [locate_nil, locate_nil]
  | (i, k) :: rest, .sl s rows, u, hR, hf => by
    simp only [Rep] at hR
    obtain ⟨base, cap, rfl, hle, hb⟩ := hR
    cases base with
    | none => unfold locate; rfl
    | some ad =>
      by_cases h0 : cap = 0
      · have hr0 : rows = [] := List.eq_nil_of_length_eq_zero (by omega)
        subst hr0
        unfold locate
        simp
      obtain ⟨hs, ⟨cells, hc, hcap⟩, hr⟩ := hb (by omega)
      unfold locate
      cases hri : rows[i]? with
      | none => simp only [hri]
      | some row =>
        cases rest with
        | nil => simp only [hri]
        | cons y rest =>
          simp only [hri]
          cases hk : row[k]? with
          | none => rfl
          | some x =>
            have hblk : w1.heap[ad.block]? = w.heap[ad.block]? := hf _ (by simp [fp, h0])
            rw [rowOf_eq hblk, hc]
            simp only
            obtain ⟨hrl, hrow⟩ := hr.get rows ad.off i row hri
            obtain ⟨cells', v, hc', hv, hRv⟩ := RepRow.get row _ hrow k x hk
            rw [hc] at hc'
            cases hc'
            rw [hv]
            simp only
            refine locate_frame (y :: rest) x v hRv fun b hb => hf b ?_
            simp only [fp, h0, if_false]
            rw [fpRows_at w ad.block s ad.off rows i row hri, fpRow_at w ad.block _ row k x hk cells v hc hv]
            simp [hb]
  | (i, k) :: rest, .int _ _, u, _, _ => by rw [locate_flat _ _ _ rfl, locate_flat _ _ _ rfl]
  | (i, k) :: rest, .bool _, u, _, _ => by rw [locate_flat _ _ _ rfl, locate_flat _ _ _ rfl]
  | (i, k) :: rest, .str _, u, _, _ => by rw [locate_flat _ _ _ rfl, locate_flat _ _ _ rfl]

section
variable {P : Program} {F : Frm} {s s1 : SS} {σ σ1 : S} {a a1 : Act} {w w1 : World} {g g1 : Gh} {T B N : Nat → Prop}

theorem Mv.alive (mv : Mv F s s1 σ σ1 a a1 w w1 g g1 T B N) {m : CM} (hu : ∀ e ∈ m.deps, s.U e = true) (h : alive s1.L m = true) : alive s.L m = true ∧ ∀ e ∈ m.deps, s1.L e = true ∧ g1.lam e = g.lam e := by
  simp only [Opt.alive, List.all_eq_true] at h ⊢
  exact ⟨fun e he => (mv.old e (h e he) (hu e he)).1, fun e he => ⟨h e he, (mv.old e (h e he) (hu e he)).2⟩⟩

theorem CellOK.mv (mv : Mv F s s1 σ σ1 a a1 w w1 g g1 T B N) {v : Value} {c : C} {m : CM} (hu : ∀ e ∈ m.deps, s.U e = true) (h : CellOK (s.cx w g) v c m) :
    CellOK (s1.cx w1 g1) v c m ∧ (Opt.alive s1.L m = true → Rep w v c ∧ Rep w1 v c ∧ fp w1 v c = fp w v c ∧ ∀ b ∈ fp w v c, w1.heap[b]? = w.heap[b]?) := by
  have key : Opt.alive s1.L m = true → Rep w v c ∧ Rep w1 v c ∧ fp w1 v c = fp w v c ∧ FpOK (s1.cx w1 g1) m (fp w v c) ∧ ∀ b ∈ fp w v c, w1.heap[b]? = w.heap[b]? := by
    intro hal
    obtain ⟨hal0, hdep⟩ := mv.alive hu hal
    obtain ⟨hR, f1, f2, f3⟩ := h.2 hal0
    change Rep w v c at hR
    have hlt := Rep.lt c v hR
    have hdead : ∀ b ∈ fp w v c, ∀ e, s.L e = true → s1.L e = false → b ∉ g.lam e := by
      intro b hb e hL hL1 hbe
      have := (hdep e ((f1 b hb).2.1 e hL hbe)).1
      rw [hL1] at this; cases this
    have hheap : ∀ b ∈ fp w v c, w1.heap[b]? = w.heap[b]? := fun b hb => mv.heap b (hlt b hb) (hdead b hb) fun k hk _ => (f1 b hb).1 k hk
    obtain ⟨hR1, hfp⟩ := Rep.frame c v hR hheap
    refine ⟨hR, hR1, hfp, ⟨fun b hb => ⟨fun k hk => ?_, fun e he hbe => ?_, ?_⟩, fun ho => ?_, fun ho b r hbr => ?_⟩, hheap⟩
    · by_cases hN : N k
      · have h1 := mv.boxNew k hk hN
        have h2 := hlt b hb
        change b ≠ g1.bet k
        omega
      · obtain ⟨hk0, hbet⟩ := mv.boxOld k hk hN
        change b ≠ g1.bet k
        rw [hbet]
        exact (f1 b hb).1 k hk0
    · change s1.L e = true at he
      change b ∈ g1.lam e at hbe
      by_cases hU : s.U e = true
      · obtain ⟨hL, hlam⟩ := mv.old e he hU
        rw [hlam] at hbe
        exact (f1 b hb).2.1 e hL hbe
      · have hU' : s.U e = false := by simpa using hU
        rcases mv.new e he hU' b hbe with hge | ⟨e', hL, hL1, hbe'⟩
        · have := hlt b hb; omega
        · exact absurd hbe' (hdead b hb e' hL hL1)
    · change g1.rch b
      rw [mv.rch]
      exact (f1 b hb).2.2
    · obtain ⟨n1, n2⟩ := f2 ho
      refine ⟨n1, fun b hb => ?_⟩
      obtain ⟨e, he, hbe⟩ := n2 b hb
      refine ⟨e, he, ?_⟩
      change b ∈ g1.lam e
      rw [(hdep e he).2]; exact hbe
    · obtain ⟨n1, e, l, hl, hbe⟩ := f3 ho b r hbr
      refine ⟨n1, e, l, hl, ?_⟩
      change b ∈ g1.lam e
      rw [(hdep e (by rw [hl]; simp)).2]; exact hbe
  refine ⟨⟨h.1, fun hal => ?_⟩, fun hal => ?_⟩
  · obtain ⟨k1, k2, k3, k4, _⟩ := key hal
    change Rep w1 v c ∧ FpOK (s1.cx w1 g1) m (fp w1 v c)
    rw [k3]
    exact ⟨k2, k4⟩
  · obtain ⟨k1, k2, k3, k4, k5⟩ := key hal
    exact ⟨k1, k2, k3, k5⟩

theorem CellsOK.mv (mv : Mv F s s1 σ σ1 a a1 w w1 g g1 T B N) {vs : List Value} {cs : List C} {ms : List CM} (hu : ∀ m ∈ ms, ∀ e ∈ m.deps, s.U e = true) (h : CellsOK (s.cx w g) vs cs ms) : CellsOK (s1.cx w1 g1) vs cs ms := by
  refine ⟨h.lenV, h.lenC, fun j v c m hv hc hm => ((h.each j v c m hv hc hm).mv mv (hu m (List.mem_of_getElem? hm))).1, ?_⟩
  intro i j v v' c c' m m' hij hv hc hm hv' hc' hm' ho ho' hal hal' b hb
  have u1 := hu m (List.mem_of_getElem? hm)
  have u2 := hu m' (List.mem_of_getElem? hm')
  obtain ⟨_, k1⟩ := (h.each i v c m hv hc hm).mv mv u1
  obtain ⟨_, k2⟩ := (h.each j v' c' m' hv' hc' hm').mv mv u2
  change b ∈ fp w1 v c at hb
  change b ∉ fp w1 v' c'
  rw [(k1 hal).2.2.1] at hb
  rw [(k2 hal').2.2.1]
  exact h.apart i j v v' c c' m m' hij hv hc hm hv' hc' hm' ho ho' (mv.alive u1 hal).1 (mv.alive u2 hal').1 b hb

theorem VOK.mv (mv : Mv F s s1 σ σ1 a a1 w w1 g g1 T B N) {agg : Bool} {ms : List CM} {d : DV} {v : Value} (hu : ∀ m ∈ ms, ∀ e ∈ m.deps, s.U e = true) (h : VOK (s.cx w g) agg ms d v) : VOK (s1.cx w1 g1) agg ms d v := by
  unfold VOK at h ⊢
  cases agg with
  | true =>
    simp only [if_true] at h ⊢
    obtain ⟨cs, vs, h1, h2, h3⟩ := h
    exact ⟨cs, vs, h1, h2, h3.mv mv hu⟩
  | false =>
    simp only [Bool.false_eq_true, if_false] at h ⊢
    obtain ⟨c, h1, h2⟩ := h
    exact ⟨c, h1, h2.mv mv hu⟩

theorem TOK.mv (mv : Mv F s s1 σ σ1 a a1 w w1 g g1 T B N) {m : M} {d : DV} {v : Value} (hu : ∀ e ∈ m.deps, s.U e = true) (h : TOK (s.cx w g) m d v) : TOK (s1.cx w1 g1) m d v := by
  by_cases hd : d = .undef
  · subst hd; exact h.undef fun q hq => ⟨q, hq⟩
  cases m with
  | dead => simp [TOK]
  | c m =>
    have h' : VOK (s.cx w g) false [m] d v := by cases d <;> first | exact absurd rfl hd | exact h
    have : VOK (s1.cx w1 g1) false [m] d v := h'.mv mv (by simpa [M.deps] using hu)
    cases d <;> first | exact absurd rfl hd | exact this
  | agg ms =>
    have h' : VOK (s.cx w g) true ms d v := by cases d <;> first | exact absurd rfl hd | exact h
    have : VOK (s1.cx w1 g1) true ms d v := h'.mv mv (by
      intro m hm e he
      exact hu e (by simp only [M.deps, List.mem_flatMap]; exact ⟨m, hm, he⟩))
    cases d <;> first | exact absurd rfl hd | exact this
  | tup l =>
    have h' : ∃ ds vs, d = .tup ds ∧ v = .tuple vs ∧ TupOK (s.cx w g) l ds vs.toList := by cases d <;> first | exact absurd rfl hd | exact h
    obtain ⟨ds, vs, rfl, rfl, t1, t2, t3, t4⟩ := h'
    simp only [M.deps, List.mem_flatMap] at hu
    simp only [TOK]
    refine ⟨ds, vs, rfl, rfl, t1, t2, fun i q d v hq hd hv => (t3 i q d v hq hd hv).mv mv fun m hm e he => hu e ⟨q, List.mem_of_getElem? hq, m, hm, he⟩, t4.mv mv fun m hm e he => ?_⟩
    obtain ⟨q, hq, hmq⟩ := List.mem_flatMap.1 hm
    exact hu e ⟨q, hq, m, hmq, he⟩

theorem Kept.mv (h : Inv F s σ a w g) (mv : Mv F s s1 σ σ1 a a1 w w1 g g1 T B N) : Kept F w1 := by
  have hk := h.kept
  refine ⟨mv.os.trans hk.os, mv.tape.trans hk.tape, mv.output.trans hk.output, Nat.le_trans hk.size mv.size, fun b hb hW => ?_⟩
  rw [← hk.block b hb hW]
  have hnm : ¬ F.mine b := by
    rintro (h | h)
    · omega
    · exact hW h
  refine mv.heap b (Nat.lt_of_lt_of_le hb hk.size) (fun e hL _ hbe => hnm (h.live e hL b hbe).1) fun k hk' _ hbk => ?_
  obtain ⟨ms, hms⟩ := Option.isSome_iff_exists.1 hk'
  exact hnm (hbk ▸ (h.boxes k ms hms).1)

theorem evPath_same {T : Nat → Prop} {t t1 : Nat → DV} (hs : ∀ k, ¬ T k → t1 k = t k) : ∀ {q : PathX}, (∀ k ∈ pathTmps q, ¬ T k) → evPath t1 q = evPath t q
  | [], _ => rfl
  | (x, k) :: r, h => by
    simp only [pathTmps, List.flatMap_cons, List.mem_append] at h
    have hx : x.ev t1 = x.ev t := by
      cases x with
      | t n => exact hs n (h n (.inl (by simp [X.tmps])))
      | _ => rfl
    simp only [evPath, hx, evPath_same hs (q := r) fun k hk => h k (.inr hk)]

theorem Mv.modeAt (mv : Mv F s s1 σ σ1 a a1 w w1 g g1 T B N) {p : Place} (ht : ∀ k ∈ p.tmps, ¬ T k) (hb : ∀ k ∈ p.boxes, ¬ B k ∧ ¬ N k) : modeAt s1 p = modeAt s p ∧ σ1.cellAt p = σ.cellAt p := by
  cases p with
  | tmp t =>
    obtain ⟨h1, h2, _⟩ := mv.tSame t (ht t (by simp [Place.tmps]))
    simp only [Opt.modeAt, S.cellAt, h1, h2, and_self]
  | box b j =>
    have hb' := hb b (by simp [Place.boxes])
    obtain ⟨h1, h2⟩ := mv.bSame b hb'.1 hb'.2
    simp only [Opt.modeAt, S.cellAt, h1, h2, and_self]

/-- The block of a box that is not touched. -/
theorem Mv.boxHeap (h : Inv F s σ a w g) (mv : Mv F s s1 σ σ1 a a1 w w1 g g1 T B N) {k : Nat} {ms : List CM} (hk : s.b k = some ms) (hk1 : (s1.b k).isSome = true) (hB : ¬ B k) (hN : ¬ N k) : g1.bet k = g.bet k ∧ w1.heap[g.bet k]? = w.heap[g.bet k]? := by
  refine ⟨(mv.boxOld k hk1 hN).2, ?_⟩
  obtain ⟨_, cells, t, hheap, _⟩ := h.boxes k ms hk
  have hlt : g.bet k < w.heap.size := by
    rcases Nat.lt_or_ge (g.bet k) w.heap.size with hlt | hge
    · exact hlt
    · rw [Array.getElem?_eq_none hge] at hheap; cases hheap
  refine mv.heap _ hlt (fun e hL _ => h.boxLive k (by rw [hk]; rfl) e hL) fun k' hk' hB' he => ?_
  have := h.boxInj k k' (by rw [hk]; rfl) hk' he
  exact hB (this ▸ hB')

/-- THE WORLD MOVES ON: all of the invariant, but for what is touched. -/
theorem Inv.mv (h : Inv F s σ a w g) (mv : Mv F s s1 σ σ1 a a1 w w1 g g1 T B N)
    (hsize : a1.tmps.size = F.n) (hdef : a1.defers = [])
    (hlive : ∀ e, s1.L e = true → s.U e = false → (∀ b ∈ g1.lam e, F.mine b ∧ open? w1 b) ∧ s1.U e = true)
    (hapart : ∀ e e', s1.L e = true → s1.L e' = true → s.U e = false → s.U e' = false → e ≠ e' → ∀ b ∈ g1.lam e, b ∉ g1.lam e')
    (ht : ∀ k, T k → TOK (s1.cx w1 g1) (s1.t k) (σ1.t k) (a1.tmps.getD k undef) ∧ ∀ e ∈ (s1.t k).deps, s1.U e = true)
    (hb : ∀ k ms, B k ∨ N k → s1.b k = some ms → (N k → F.mine (g1.bet k)) ∧ (∃ cells t, w1.heap[g1.bet k]? = some (.cells cells t (0, 0)) ∧ CellsOK (s1.cx w1 g1) cells.toList (σ1.b k) ms) ∧ ∀ m ∈ ms, ∀ e ∈ m.deps, s1.U e = true)
    (hbl : ∀ k, N k → (s1.b k).isSome = true → ∀ e, s1.L e = true → s.U e = false → g1.bet k ∉ g1.lam e)
    (hbi : ∀ k k', N k → N k' → (s1.b k).isSome = true → (s1.b k').isSome = true → g1.bet k = g1.bet k' → k = k')
    (hp : ∀ k q gd, s1.p k = some (q, gd) → (s.p k = some (q, gd) ∧ ¬ T k ∧ (∀ t ∈ q.tmps, ¬ T t) ∧ (∀ t ∈ gTmps gd, ¬ T t) ∧ (∀ b ∈ q.boxes, ¬ B b ∧ ¬ N b) ∧ (∀ b o, q = .box b o → ¬ N b ∧ ((s.b b).isSome = true → (s1.b b).isSome = true))) ∨
      (guardHolds σ1 gd → PtrOK s1 σ1 a1 w1 g1 (a1.tmps.getD k undef) q))
    (ha : ∀ k p q, s1.a k = some (p, q) → (s.a k = some (p, q) ∧ ¬ T k ∧ (∀ t ∈ p.tmps, ¬ T t) ∧ (∀ t ∈ pathTmps q, ¬ T t) ∧ (∀ b ∈ p.boxes, ¬ B b ∧ ¬ N b)) ∨
      (σ1.t k ≠ .undef → AlOK s1 σ1 a1 w1 g1 (a1.tmps.getD k undef) (σ1.t k) p q))
    (hro : ∀ i k, (i, k) ∈ F.ro → B k ∨ N k → (s1.b k).isSome = true → ∃ t, w1.heap[g1.bet k]? = some (.cells (F.v0 i).cells t (0, 0)))
    (hN : ∀ k, N k → k < F.n) :
    Inv F s1 σ1 a1 w1 g1 := by
  have hplace : ∀ {p : Place}, (∀ k ∈ p.tmps, ¬ T k) → (∀ b ∈ p.boxes, ¬ B b ∧ ¬ N b) → ∀ {m : CM} {c : C} {u : Value} {us : List Value}, modeAt s1 p = some m → alive s1.L m = true → σ1.cellAt p = some c → Opt.placeV w1 g1 a1 p = some (u :: us) →
      modeAt s p = some m ∧ alive s.L m = true ∧ σ.cellAt p = some c ∧ Opt.placeV w g a p = some (u :: us) ∧ Rep w u c ∧ ∀ b ∈ fp w u c, w1.heap[b]? = w.heap[b]? := by
    intro p hpt hpb m c u us e1 e2 e3 e4
    obtain ⟨q1, q2⟩ := mv.modeAt hpt hpb
    rw [q1] at e1
    rw [q2] at e3
    have hu := h.usedAt e1
    obtain ⟨hal, hdep⟩ := mv.alive hu e2
    have hpl : Opt.placeV w1 g1 a1 p = Opt.placeV w g a p := by
      cases p with
      | tmp t => simp only [Opt.placeV, (mv.tSame t (hpt t (by simp [Place.tmps]))).2.2]
      | box b j =>
        have hb' := hpb b (by simp [Place.boxes])
        simp only [modeAt] at e1
        split at e1
        · rename_i ms hms
          obtain ⟨h1, h2⟩ := mv.boxHeap h hms (by rw [(mv.bSame b hb'.1 hb'.2).1, hms]; rfl) hb'.1 hb'.2
          simp only [Opt.placeV, h1, rowOf_eq h2]
        · cases e1
    rw [hpl] at e4
    obtain ⟨u', us', hu', hcell⟩ := h.placeV e1 e3
    rw [e4] at hu'
    cases hu'
    obtain ⟨_, k⟩ := hcell.mv mv hu
    obtain ⟨k1, _, _, k4⟩ := k e2
    exact ⟨e1, hal, e3, e4, k1, k4⟩
  constructor
  · exact Kept.mv h mv
  · exact hsize
  · exact hdef
  · rw [mv.rch]; exact h.reach
  · intro e he b hbe
    by_cases hU : s.U e = true
    · obtain ⟨hL, hlam⟩ := mv.old e he hU
      rw [hlam] at hbe
      obtain ⟨h1, h2⟩ := h.live e hL b hbe
      refine ⟨h1, ?_⟩
      obtain ⟨c, t, hct⟩ := h2
      have hlt : b < w.heap.size := by
        rcases Nat.lt_or_ge b w.heap.size with hlt | hge
        · exact hlt
        · rw [Array.getElem?_eq_none hge] at hct; cases hct
      refine ⟨c, t, ?_⟩
      rw [← hct]
      refine mv.heap b hlt (fun e' hL' hL1 hbe' => ?_) fun k hk _ hbk => ?_
      · have : e ≠ e' := fun h => by rw [← h, he] at hL1; cases hL1
        exact h.apart e e' hL hL' this b hbe hbe'
      · exact h.boxLive k hk e hL (hbk ▸ hbe)
    · exact (hlive e he (by simpa using hU)).1 b hbe
  · intro e e' he he' hne b hbe hbe'
    by_cases hU : s.U e = true
    · obtain ⟨hL, hlam⟩ := mv.old e he hU
      rw [hlam] at hbe
      by_cases hU' : s.U e' = true
      · obtain ⟨hL', hlam'⟩ := mv.old e' he' hU'
        rw [hlam'] at hbe'
        exact h.apart e e' hL hL' hne b hbe hbe'
      · rcases mv.new e' he' (by simpa using hU') b hbe' with hge | ⟨e2, hL2, hL21, hb2⟩
        · obtain ⟨_, c, t, hct⟩ := h.live e hL b hbe
          rw [Array.getElem?_eq_none hge] at hct; cases hct
        · have : e ≠ e2 := fun h => by rw [← h, he] at hL21; cases hL21
          exact h.apart e e2 hL hL2 this b hbe hb2
    · by_cases hU' : s.U e' = true
      · obtain ⟨hL', hlam'⟩ := mv.old e' he' hU'
        rw [hlam'] at hbe'
        rcases mv.new e he (by simpa using hU) b hbe with hge | ⟨e2, hL2, hL21, hb2⟩
        · obtain ⟨_, c, t, hct⟩ := h.live e' hL' b hbe'
          rw [Array.getElem?_eq_none hge] at hct; cases hct
        · have : e' ≠ e2 := fun h => by rw [← h, he'] at hL21; cases hL21
          exact h.apart e' e2 hL' hL2 this b hbe' hb2
      · exact hapart e e' he he' (by simpa using hU) (by simpa using hU') hne b hbe hbe'
  · intro e he
    by_cases hU : s.U e = true
    · exact mv.uSub e hU
    · exact (hlive e he (by simpa using hU)).2
  · intro k e he
    by_cases hT : T k
    · exact (ht k hT).2 e he
    · rw [(mv.tSame k hT).1] at he
      exact mv.uSub e (h.usedT k e he)
  · intro k ms hk m hm e he
    by_cases hBN : B k ∨ N k
    · exact (hb k ms hBN hk).2.2 m hm e he
    · simp only [not_or] at hBN
      rw [(mv.bSame k hBN.1 hBN.2).1] at hk
      exact mv.uSub e (h.usedB k ms hk m hm e he)
  · intro k ms hk
    by_cases hBN : B k ∨ N k
    · obtain ⟨h1, h2, _⟩ := hb k ms hBN hk
      refine ⟨?_, h2⟩
      by_cases hN : N k
      · exact h1 hN
      · obtain ⟨h3, h4⟩ := mv.boxOld k (by rw [hk]; rfl) hN
        obtain ⟨ms0, hms0⟩ := Option.isSome_iff_exists.1 h3
        rw [h4]
        exact (h.boxes k ms0 hms0).1
    · simp only [not_or] at hBN
      obtain ⟨q1, q2⟩ := mv.bSame k hBN.1 hBN.2
      have hk' := hk
      rw [q1] at hk'
      obtain ⟨h1, cells, t, h2, h3⟩ := h.boxes k ms hk'
      obtain ⟨h4, h5⟩ := mv.boxHeap h hk' (by rw [hk]; rfl) hBN.1 hBN.2
      rw [h4, q2, h5]
      exact ⟨h1, cells, t, h2, h3.mv mv (h.usedB k ms hk')⟩
  · intro k hk e he hbe
    by_cases hN : N k
    · by_cases hU : s.U e = true
      · obtain ⟨hL, hlam⟩ := mv.old e he hU
        rw [hlam] at hbe
        have h1 := mv.boxNew k hk hN
        obtain ⟨_, c, t, hct⟩ := h.live e hL _ hbe
        rw [Array.getElem?_eq_none h1] at hct; cases hct
      · exact hbl k hN hk e he (by simpa using hU) hbe
    · obtain ⟨hk0, hbet⟩ := mv.boxOld k hk hN
      rw [hbet] at hbe
      by_cases hU : s.U e = true
      · obtain ⟨hL, hlam⟩ := mv.old e he hU
        rw [hlam] at hbe
        exact h.boxLive k hk0 e hL hbe
      · rcases mv.new e he (by simpa using hU) _ hbe with hge | ⟨e2, hL2, hL21, hb2⟩
        · obtain ⟨ms, hms⟩ := Option.isSome_iff_exists.1 hk0
          obtain ⟨_, c, t, hct, _⟩ := h.boxes k ms hms
          rw [Array.getElem?_eq_none hge] at hct; cases hct
        · exact h.boxLive k hk0 e2 hL2 hb2
  · intro k k' hk hk' he
    by_cases hN : N k
    · by_cases hN' : N k'
      · exact hbi k k' hN hN' hk hk' he
      · obtain ⟨hk0, hbet⟩ := mv.boxOld k' hk' hN'
        have h1 := mv.boxNew k hk hN
        rw [he, hbet] at h1
        obtain ⟨ms, hms⟩ := Option.isSome_iff_exists.1 hk0
        obtain ⟨_, c, t, hct, _⟩ := h.boxes k' ms hms
        rw [Array.getElem?_eq_none h1] at hct; cases hct
    · obtain ⟨hk0, hbet⟩ := mv.boxOld k hk hN
      by_cases hN' : N k'
      · have h1 := mv.boxNew k' hk' hN'
        rw [← he, hbet] at h1
        obtain ⟨ms, hms⟩ := Option.isSome_iff_exists.1 hk0
        obtain ⟨_, c, t, hct, _⟩ := h.boxes k ms hms
        rw [Array.getElem?_eq_none h1] at hct; cases hct
      · obtain ⟨hk0', hbet'⟩ := mv.boxOld k' hk' hN'
        rw [hbet, hbet'] at he
        exact h.boxInj k k' hk0 hk0' he
  · intro k
    by_cases hT : T k
    · exact (ht k hT).1
    · obtain ⟨h1, h2, h3⟩ := mv.tSame k hT
      rw [h1, h2, h3]
      exact (h.tmps k).mv mv (h.usedT k)
  · intro k q gd hk hg
    rcases hp k q gd hk with ⟨h1, h2, h3, h4, h5, h6⟩ | h1
    · have hg0 : guardHolds σ gd := by
        cases gd with
        | none => trivial
        | some x =>
          obtain ⟨t, v⟩ := x
          simp only [guardHolds] at hg ⊢
          rw [← (mv.tSame t (h4 t (by simp [gTmps]))).2.1]
          exact hg
      have hP := h.ptrs k q gd h1 hg0
      rw [(mv.tSame k h2).2.2]
      cases q with
      | box b off =>
        simp only [PtrOK] at hP ⊢
        obtain ⟨h7, h8⟩ := h6 b off rfl
        exact ⟨h8 hP.1, by rw [(mv.boxOld b (h8 hP.1) h7).2]; exact hP.2⟩
      | el p q =>
        simp only [PtrOK] at hP ⊢
        simp only [Ptr.tmps, List.mem_append] at h3
        simp only [Ptr.boxes] at h5
        obtain ⟨b, off, hv, hP⟩ := hP
        refine ⟨b, off, hv, fun m c u us e1 e2 e3 e4 => ?_⟩
        obtain ⟨r1, r2, r3, r4, r5, r6⟩ := hplace (fun k hk => h3 k (.inl hk)) h5 e1 e2 e3 e4
        obtain ⟨path, p1, p2⟩ := hP m c u us r1 r2 r3 r4
        refine ⟨path, ?_, by rw [locate_frame path c u r5 r6]; exact p2⟩
        rw [evPath_same (fun k hk => (mv.tSame k hk).2.1) fun k hk => h3 k (.inr hk)]
        exact p1
    · exact h1 hg
  · intro k p q hk hne
    rcases ha k p q hk with ⟨h1, h2, h3, h4, h5⟩ | h1
    · rw [(mv.tSame k h2).2.1] at hne
      have hA := h.als k p q h1 hne
      rw [(mv.tSame k h2).2.2, (mv.tSame k h2).2.1]
      cases q with
      | nil =>
        cases p with
        | tmp t =>
          simp only [AlOK] at hA ⊢
          have := mv.tSame t (h3 t (by simp [Place.tmps]))
          rw [this.2.1, this.2.2]
          exact hA
        | box b j =>
          simp only [AlOK] at hA ⊢
          obtain ⟨h6, h7⟩ := h5 b (by simp [Place.boxes])
          obtain ⟨ms, hms⟩ := Option.isSome_iff_exists.1 hA.1
          have h9 : (s1.b b).isSome = true := by rw [(mv.bSame b h6 h7).1]; exact hA.1
          obtain ⟨q1, q2⟩ := mv.boxHeap h hms h9 h6 h7
          rw [q1, rowOf_eq q2, (mv.bSame b h6 h7).2]
          exact ⟨h9, hA.2⟩
      | cons y q =>
        simp only [AlOK] at hA ⊢
        intro m c u us e1 e2 e3 e4
        obtain ⟨r1, r2, r3, r4, r5, r6⟩ := hplace h3 h5 e1 e2 e3 e4
        obtain ⟨path, b, off, cells, cs, p1, p2, p3, p4, p5, p6⟩ := hA m c u us r1 r2 r3 r4
        refine ⟨path, b, off, cells, cs, ?_, by rw [locate_frame path c u r5 r6]; exact p2, ?_, p4, p5, p6⟩
        · rw [evPath_same (fun k hk => (mv.tSame k hk).2.1) h4]; exact p1
        · obtain ⟨b', off', g1', _, g3, _⟩ := get_ok path u c cs r5 p6
          rw [p2] at g1'
          cases g1'
          rw [rowOf_eq (r6 b g3)]
          exact p3
    · exact h1 hne
  · intro k hk hx
    by_cases hN : N k
    · exact Nat.le_trans h.kept.size (mv.boxNew k hk hN)
    · obtain ⟨h1, h2⟩ := mv.boxOld k hk hN
      rw [h2]
      exact h.boxFresh k h1 hx
  · intro i k hi hk
    by_cases hBN : B k ∨ N k
    · exact hro i k hi hBN hk
    · simp only [not_or] at hBN
      obtain ⟨h1, h2⟩ := mv.boxOld k hk hBN.2
      obtain ⟨ms, hms⟩ := Option.isSome_iff_exists.1 h1
      obtain ⟨h3, h4⟩ := mv.boxHeap h hms hk hBN.1 hBN.2
      rw [h3, h4]
      exact h.ro i k hi h1
  · exact h.small
  · intro k hx hk
    by_cases hNk : N k
    · have := hN k hNk
      have := h.small
      omega
    · obtain ⟨h1, h2⟩ := mv.boxOld k hk hNk
      rw [h2]
      exact h.ext k hx h1
end
end Go.Opt
/- Each operation, by itself: new boxes. -/
set_option linter.unusedVariables false
namespace Go.Opt
open Go.RowKit

theorem cutB_p (s : SS) (b k : Nat) (q : Ptr) (gd : Option (Nat × Bool)) (h : (s.cutB b).p k = some (q, gd)) : b ∉ q.boxes ∧ s.p k = some (q, gd) := by
  simp only [SS.cutB] at h
  split at h
  · rename_i q' g' hk
    split at h
    · cases h
    · rename_i hn; cases h; exact ⟨hn, hk⟩
  · cases h
theorem cutB_a (s : SS) (b k : Nat) (p : Place) (q : PathX) (h : (s.cutB b).a k = some (p, q)) : b ∉ p.boxes ∧ s.a k = some (p, q) := by
  simp only [SS.cutB] at h
  split at h
  · rename_i q' g' hk
    split at h
    · cases h
    · rename_i hn; cases h; exact ⟨hn, hk⟩
  · cases h
theorem cutA_p (s : SS) (b k : Nat) (q : Ptr) (gd : Option (Nat × Bool)) (h : (s.cutA b).p k = some (q, gd)) : b ∉ q.boxes ∧ (∀ o, q ≠ .box b o) ∧ s.p k = some (q, gd) := by
  simp only [SS.cutA] at h
  split at h
  · rename_i b' o g' hk
    split at h
    · cases h
    · rename_i hn
      obtain ⟨h1, h2⟩ := cutB_p s b k _ _ hk
      cases h
      exact ⟨h1, fun o' he => hn (by cases he; rfl), h2⟩
  · rename_i hk
    obtain ⟨h1, h2⟩ := cutB_p s b k _ _ h
    refine ⟨h1, fun o he => ?_, h2⟩
    subst he
    exact hk _ _ _ h

section
variable {P : Program} {F : Frm} {s : SS} {σ : S} {a : Act} {w : World} {g : Gh} {Φ : Cl'} {G : Nat → Option Sg} {ro : List Nat} {gd : Option (Nat × Bool)} {σ1 : S} {s1 : SS}

theorem World.get_alloc_lt (w : World) (ob : Obj) {b : Nat} (h : b < w.heap.size) : (w.alloc ob).heap[b]? = w.heap[b]? := by
  show (w.heap.push ob)[b]? = w.heap[b]?
  rw [Array.getElem?_push, if_neg (by omega)]
theorem World.get_alloc_new (w : World) (ob : Obj) : (w.alloc ob).heap[w.heap.size]? = some ob := by
  show (w.heap.push ob)[w.heap.size]? = some ob
  simp

/-- The static state behind a new box. -/
def SS.newBox (s : SS) (n : Nat) (ms : List CM) : SS :=
  { ((s.cutA n).put (some n) .dead) with b := upd ((s.cutA n).put (some n) .dead).b n (some ms), p := upd ((s.cutA n).put (some n) .dead).p n (some (.box n 0, none)) }

/-- A NEW BOX. -/
theorem Inv.newBox (h : Inv F s σ a w g) {n : Nat} (hn : n < F.n) {cells : Array Value} {t : TypeId} {cs : List C} {ms : List CM}
    (hC : ∀ x : Cx, x.w = w.alloc (.cells cells t) → x.L = s.L → x.g = { g with bet := upd g.bet n w.heap.size } → (∀ k, x.bx k = true → k = n ∨ (s.b k).isSome = true) → CellsOK x cells.toList cs ms)
    (hu : ∀ m ∈ ms, ∀ e ∈ m.deps, s.U e = true) (hro : ∀ i, (i, n) ∈ F.ro → cells = (F.v0 i).cells) :
    Inv F (s.newBox n ms) ⟨upd σ.t n .undef, upd σ.b n cs⟩ (a.put (some n) (.pointer (some ⟨w.heap.size, 0, none⟩))) (w.alloc (.cells cells t)) { g with bet := upd g.bet n w.heap.size } := by
  have hns : n < a.tmps.size := by rw [h.size]; exact hn
  have hmv : Mv F s (s.newBox n ms) σ ⟨upd σ.t n .undef, upd σ.b n cs⟩ a (a.put (some n) (.pointer (some ⟨w.heap.size, 0, none⟩))) w (w.alloc (.cells cells t)) g { g with bet := upd g.bet n w.heap.size } (· = n) (fun _ => False) (· = n) := by
    constructor
    · simp
    · rfl
    · rfl
    · rfl
    · rfl
    · intro e he _; exact ⟨he, rfl⟩
    · intro e he hU
      have : s.U e = true := h.used e he
      rw [hU] at this; cases this
    · intro b hb _ _; exact World.get_alloc_lt _ _ hb
    · intro k hk hN
      simp only [SS.newBox, upd_ne _ _ hN] at hk
      exact ⟨hk, upd_ne _ _ hN⟩
    · intro k _ hN; subst hN; simp only [upd_same]; exact Nat.le_refl _
    · intro k hk; exact hk.elim
    · intro k hk
      exact ⟨upd_ne _ _ hk, upd_ne _ _ hk, by rw [put_get a n k _ hns, if_neg hk]⟩
    · intro k _ hk
      exact ⟨upd_ne _ _ hk, upd_ne _ _ hk⟩
    · exact fun e he => he
  refine h.mv hmv ?_ h.defers ?_ ?_ ?_ ?_ ?_ ?_ ?_ ?_ ?_ ?_
  · simp only [Act.put, Array.size_setIfInBounds]; exact h.size
  · intro e he hU
    have : s.U e = true := h.used e he
    rw [hU] at this; cases this
  · intro e e' he _ hU
    have : s.U e = true := h.used e he
    rw [hU] at this; cases this
  · intro k hk
    subst hk
    refine ⟨?_, ?_⟩
    · have : (s.newBox k ms).t k = .dead := upd_same _ _ _
      rw [this]; simp [TOK]
    · have : (s.newBox k ms).t k = .dead := upd_same _ _ _
      rw [this]; simp [M.deps]
  · intro k ms' hk hms
    have hk : k = n := hk.elim (fun h => h.elim) id
    subst hk
    have : (s.newBox k ms).b k = some ms := upd_same _ _ _
    rw [this] at hms
    cases hms
    refine ⟨fun _ => ?_, ⟨cells, t, ?_, ?_⟩, hu⟩
    · simp only [upd_same]; exact .inl h.kept.size
    · simp only [upd_same]; exact World.get_alloc_new _ _
    · simp only [upd_same]
      refine hC _ rfl rfl rfl fun j hj => ?_
      by_cases e : j = k
      · exact .inl e
      · right
        have : ((s.newBox k ms).b j).isSome = true := hj
        have e2 : (s.newBox k ms).b j = s.b j := upd_ne _ _ e
        rw [e2] at this; exact this
  · intro k hk _ e he hU
    have : s.U e = true := h.used e he
    rw [hU] at this; cases this
  · intro k k' hk hk' _ _ _; rw [hk, hk']
  · intro k q gd' hk
    by_cases e : k = n
    · subst e
      have : (s.newBox k ms).p k = some (.box k 0, none) := upd_same _ _ _
      rw [this] at hk
      cases hk
      refine .inr fun _ => ?_
      simp only [PtrOK, put_get a k k _ hns, if_true, upd_same, and_true]
      have : (s.newBox k ms).b k = some ms := upd_same _ _ _
      rw [this]; rfl
    · have : (s.newBox n ms).p k = ((s.cutA n).put (some n) .dead).p k := upd_ne _ _ e
      rw [this] at hk
      obtain ⟨h1, h2, h3, h4⟩ := cutT_p _ n k q gd' hk
      obtain ⟨h5, h6, h7⟩ := cutA_p s n k q gd' h4
      refine .inl ⟨h7, e, fun t ht he => h2 (he ▸ ht), fun t ht he => h3 (he ▸ ht), fun b hb => ⟨fun h => h, fun he => h5 (he ▸ hb)⟩, fun b o hq => ?_⟩
      have hbn : b ≠ n := fun he => h6 o (by rw [hq, he])
      refine ⟨hbn, fun hb => ?_⟩
      have : (s.newBox n ms).b b = s.b b := upd_ne _ _ hbn
      rw [this]; exact hb
  · intro k p q hk
    obtain ⟨h1, h2, h3, h4⟩ := cutT_a (s.cutA n) n k p q hk
    obtain ⟨h5, h6⟩ := cutB_a s n k p q h4
    exact .inl ⟨h6, h1, fun t ht he => h2 (he ▸ ht), fun t ht he => h3 (he ▸ ht), fun b hb => ⟨fun h => h, fun he => h5 (he ▸ hb)⟩⟩
  · intro i k hi hk _
    have hk : k = n := hk.elim (fun h => h.elim) id
    subst hk
    simp only [upd_same]
    exact ⟨t, by rw [World.get_alloc_new, hro i hi]⟩
  · intro k hk; rw [hk]; exact hn

/-- A box of a parameter that is never stored into is made once, of the parameter. -/
def RoOK (F : Frm) (a : Act) (d : Option Nat) (o : O) : Prop := ∀ i k, (i, k) ∈ F.ro → d = some k → ∃ n, o = .box n (.t i) ∧ a.tmps.getD i undef = F.v0 i

/-! ### Zeros -/
theorem K.fits_hd {k : K} {v : Value} (h : k.fits v = true) : Hd v k.zero := by
  unfold K.fits at h
  split at h
  · rename_i k k' n
    simp only [Bool.and_eq_true, beq_iff_eq] at h
    obtain ⟨rfl, rfl⟩ := h
    rfl
  · rename_i b; cases b <;> first | rfl | simp at h
  · rename_i str
    simp only [K.zero, Hd]
    obtain ⟨d⟩ := str
    simp only [Array.isEmpty_iff] at h
    subst h
    rfl
  · exact ⟨none, 0, rfl, by simp, rfl⟩
  · cases h

theorem K.zero_rep {w : World} {k : K} {v : Value} (h : k.fits v = true) : Rep w v k.zero ∧ fp w v k.zero = [] := by
  have hh := K.fits_hd h
  cases k with
  | int k => exact ⟨by simpa [Rep, K.zero, Hd] using hh, rfl⟩
  | bool => exact ⟨by simpa [Rep, K.zero, Hd] using hh, rfl⟩
  | str => exact ⟨by simpa [Rep, K.zero, Hd] using hh, rfl⟩
  | sl s =>
    unfold K.fits at h
    split at h <;> first | (cases h; done) | skip
    all_goals first | (rename_i he; cases he; done) | skip
    all_goals first | (rename_i he _; cases he; done) | skip
    all_goals exact ⟨by simp only [K.zero, Rep]; exact ⟨none, 0, rfl, by simp, rfl⟩, rfl⟩

theorem fits_get : ∀ {ks : List K} {vs : List Value}, fitsAll ks vs = true → vs.length = ks.length ∧ ∀ (j : Nat) (k : K) (v : Value), ks[j]? = some k → vs[j]? = some v → k.fits v = true
  | [], [], _ => ⟨rfl, by simp⟩
  | k :: ks, v :: vs, h => by
    simp only [fitsAll, Bool.and_eq_true] at h
    obtain ⟨h1, h2⟩ := fits_get h.2
    refine ⟨by simp [h1], fun j k' v' hk hv => ?_⟩
    cases j with
    | zero => simp at hk hv; subst hk; subst hv; exact h.1
    | succ j => simp at hk hv; exact h2 j k' v' hk hv
  | [], _ :: _, h => by simp [fitsAll] at h
  | _ :: _, [], h => by simp [fitsAll] at h

/-- Zeros, whatever the modes. -/
theorem CellsOK.zeros {x : Cx} {ks : List K} {vs : List Value} {ms : List CM} (h : fitsAll ks vs = true) (hl : ms.length = ks.length) : CellsOK x vs (ks.map K.zero) ms := by
  obtain ⟨h1, h2⟩ := fits_get h
  refine ⟨by omega, by simp [hl], fun j v c m hv hc hm => ?_, fun i j v v' c c' m m' hij hv hc hm hv' hc' hm' _ _ _ _ b hb => ?_⟩
  · rw [List.getElem?_map] at hc
    obtain ⟨k, hk, rfl⟩ := Option.map_eq_some_iff.1 hc
    have hf := h2 j k v hk hv
    refine ⟨K.fits_hd hf, fun _ => ?_⟩
    obtain ⟨r1, r2⟩ := K.zero_rep (w := x.w) hf
    rw [r2]
    exact ⟨r1, FpOK.nil x m⟩
  · rw [List.getElem?_map] at hc
    obtain ⟨k, hk, rfl⟩ := Option.map_eq_some_iff.1 hc
    rw [(K.zero_rep (w := x.w) (h2 i k v hk hv)).2] at hb
    cases hb

theorem run_zeroK {t : TypeId} {ks : List K} (hk : kinds P t = some ks) : ∃ z, (∀ w : World, (zeroValue t).run P w = .ok z w) ∧ fitsAll ks z.cells.toList = true := by
  obtain ⟨_, i, z, hi, hs, hpos, hz, hf⟩ := kinds_info hk
  exact ⟨z, fun w => by simp [zeroValue, typeInfo, hi, hz], hf⟩

theorem fin_alloc {ks : List K} (h : Inv F s σ a w g) {o : Oper} (hd : ∀ k, o.dst = some k → k < F.n) (hro : RoOK F a o.dst (.alloc ks)) {t : TypeId} (ho : o.op = .alloc t) (hk : kinds P t = some ks)
    (h1 : step Φ o.dst (.alloc ks) σ = some σ1) (h2 : sstep G ro gd o.dst (.alloc ks) s = some s1) : Fin P F o s1 σ1 a w := by
  simp only [step] at h1
  simp only [sstep] at h2
  cases hdst : o.dst with
  | none => rw [hdst] at h1; cases h1
  | some n =>
    rw [hdst] at h1 h2
    simp only [Option.some.injEq] at h1 h2
    subst h1; subst h2
    obtain ⟨z, hz, hf⟩ := run_zeroK hk
    refine ⟨.value (.pointer (some ⟨w.heap.size, 0, none⟩)), _, w.alloc (.cells z.cells t), { g with bet := upd g.bet n w.heap.size }, ?_, .inl rfl, ?_⟩
    · simp only [execOp, ho, Instr.alloc, Sem.run_bind, hz, Result.andThen_ok, newVar, newRow, run_newObj_alloc, Sem.run_pure]
    · rw [hdst]
      exact h.newBox (hd n hdst) (fun x _ _ _ _ => CellsOK.zeros hf (by simp)) (by
        intro m hm e he
        obtain ⟨_, _, rfl⟩ := List.mem_map.1 hm
        simp [CM.free] at he) (fun i hi => by
        obtain ⟨n', hn', _⟩ := hro i n hi hdst
        cases hn')

/-- The cells of an operand. -/
theorem TOK.cellsOf {x : Cx} {m : M} {dv : DV} {v : Value} {ms : List CM} {cs : List C} (h : TOK x m dv v) (hm : m.cells = some ms) (hc : dv.cells = some cs) : CellsOK x v.cells.toList cs ms := by
  cases m with
  | dead => simp [M.cells] at hm
  | tup l => simp [M.cells] at hm
  | c m =>
    simp only [M.cells, Option.some.injEq] at hm
    subst hm
    cases dv with
    | undef => simp [DV.cells] at hc
    | agg _ => simp [TOK, VOK] at h
    | tup _ => simp [TOK, VOK] at h
    | c c =>
      simp only [DV.cells, Option.some.injEq] at hc
      subst hc
      have := h.of_cell
      rw [this.1.cells]
      exact .one this
  | agg ms' =>
    simp only [M.cells, Option.some.injEq] at hm
    subst hm
    cases dv with
    | undef => simp [DV.cells] at hc
    | c _ => simp [TOK, VOK] at h
    | tup _ => simp [TOK, VOK] at h
    | agg xs =>
      simp only [DV.cells, Option.some.injEq] at hc
      subst hc
      obtain ⟨vs, rfl, hC⟩ := h.of_agg
      simpa [Value.cells] using hC

/-- Cells that stay as they are, among more boxes. -/
theorem CellsOK.grown {x y : Cx} {vs : List Value} {cs : List C} {ms : List CM} (hL : y.L = x.L) (hlam : y.g.lam = x.g.lam) (hrch : y.g.rch = x.g.rch) (hw : ∀ b, b < x.w.heap.size → y.w.heap[b]? = x.w.heap[b]?)
    (hb : ∀ k, y.bx k = true → x.w.heap.size ≤ y.g.bet k ∨ x.bx k = true ∧ y.g.bet k = x.g.bet k) (h : CellsOK x vs cs ms) : CellsOK y vs cs ms := by
  have key : ∀ {v : Value} {c : C} {m : CM}, CellOK x v c m → alive x.L m = true → Rep y.w v c ∧ fp y.w v c = fp x.w v c ∧ FpOK y m (fp x.w v c) := by
    intro v c m hc hal
    obtain ⟨hR, f1, f2, f3⟩ := hc.2 hal
    have hlt := Rep.lt c v hR
    obtain ⟨r1, r2⟩ := Rep.frame c v hR fun b hb => hw b (hlt b hb)
    refine ⟨r1, r2, fun b hbf => ⟨fun k hk => ?_, fun e he hbe => ?_, ?_⟩, fun ho => ?_, fun ho b r hbr => ?_⟩
    · rcases hb k hk with h1 | ⟨h1, h2⟩
      · have := hlt b hbf; omega
      · rw [h2]; exact (f1 b hbf).1 k h1
    · rw [hL] at he; rw [hlam] at hbe; exact (f1 b hbf).2.1 e he hbe
    · rw [hrch]; exact (f1 b hbf).2.2
    · obtain ⟨n1, n2⟩ := f2 ho; rw [hlam]; exact ⟨n1, n2⟩
    · rw [hlam]; exact f3 ho b r hbr
  refine ⟨h.lenV, h.lenC, fun j v c m hv hc hm => ⟨(h.each j v c m hv hc hm).1, fun hal => ?_⟩, ?_⟩
  · rw [hL] at hal
    obtain ⟨k1, k2, k3⟩ := key (h.each j v c m hv hc hm) hal
    rw [k2]; exact ⟨k1, k3⟩
  · intro i j v v' c c' m m' hij hv hc hm hv' hc' hm' ho ho' hal hal' b hbm
    rw [hL] at hal hal'
    rw [(key (h.each i v c m hv hc hm) hal).2.1] at hbm
    rw [(key (h.each j v' c' m' hv' hc' hm') hal').2.1]
    exact h.apart i j v v' c c' m m' hij hv hc hm hv' hc' hm' ho ho' hal hal' b hbm

theorem M.cells_deps {m : M} {ms : List CM} (h : m.cells = some ms) : ∀ q ∈ ms, ∀ e ∈ q.deps, e ∈ m.deps := by
  cases m with
  | dead => simp [M.cells] at h
  | tup l => simp [M.cells] at h
  | c m =>
    simp only [M.cells, Option.some.injEq] at h
    subst h
    intro q hq e he
    simp at hq; subst hq; exact he
  | agg ms' =>
    simp only [M.cells, Option.some.injEq] at h
    subst h
    intro q hq e he
    simp only [M.deps, List.mem_flatMap]; exact ⟨q, hq, he⟩

theorem fin_box (h : Inv F s σ a w g) {o : Oper} (hd : ∀ k, o.dst = some k → k < F.n) {t : TypeId} {x : Operand} {xx : X} {n0 : Nat} (hro : RoOK F a o.dst (.box n0 xx)) (ho : o.op = .box t x) (hx : normX P t x = some xx)
    (h1 : step Φ o.dst (.box n0 xx) σ = some σ1) (h2 : sstep G ro gd o.dst (.box n0 xx) s = some s1) : Fin P F o s1 σ1 a w := by
  simp only [step] at h1
  simp only [sstep] at h2
  split at h1
  · rename_i n cs hdst hcs
    split at h1
    · rename_i hlen
      cases h1
      rw [hdst] at h2
      split at h2
      · rename_i k ms hk hms
        cases hk
        split at h2
        · rename_i hc
          cases h2
          obtain ⟨hT, hU⟩ := h.x hx
          have hC := hT.cellsOf hms hcs
          refine ⟨.value (.pointer (some ⟨w.heap.size, 0, none⟩)), _, w.alloc (.cells (a.eval x).cells t), { g with bet := upd g.bet n w.heap.size }, ?_, .inl rfl, ?_⟩
          · simp only [execOp, ho, Instr.box, Sem.run_bind, newVar, newRow, run_newObj_alloc, Sem.run_pure, Result.andThen_ok]
          · rw [hdst]
            refine h.newBox (hd n hdst) (fun y hw hL hg hb => ?_) (fun m hm e he => hU e (M.cells_deps hms m hm e he)) fun i hi => ?_
            case refine_2 =>
              obtain ⟨n', hn', hv⟩ := hro i n hi hdst
              cases hn'
              rw [← hv]
              cases x with
              | tmp j =>
                simp only [normX, Option.some.injEq, X.t.injEq] at hx
                subst hx; rfl
              | const c =>
                exfalso
                unfold normX at hx
                split at hx <;> simp_all <;> (try split at hx) <;> simp_all
              | global _ => simp [normX] at hx
              | func _ => simp [normX] at hx
            refine hC.grown (y := y) hL (by rw [hg]; rfl) (by rw [hg]; rfl) (fun b hbl => ?_) fun k hk => ?_
            · rw [hw]; exact World.get_alloc_lt _ _ hbl
            · rw [hg]
              by_cases e : k = n
              · subst e; left; simp only [upd_same]; exact Nat.le_refl _
              · right
                exact ⟨(hb k hk).resolve_left e, upd_ne _ _ e⟩
        · cases h2
      · cases h2
    · cases h1
  · cases h1
end
end Go.Opt
/- Each operation, by itself: new rows. -/
set_option linter.unusedVariables false
namespace Go.Opt
open Go.RowKit

section
variable {P : Program} {F : Frm} {s : SS} {σ : S} {a : Act} {w : World} {g : Gh} {Φ : Cl'} {G : Nat → Option Sg} {ro : List Nat} {gd : Option (Nat × Bool)} {σ1 : S} {s1 : SS}

/-- Where an open block lies. -/
theorem open_lt {w : World} {b : Nat} (h : open? w b) : b < w.heap.size := by
  obtain ⟨c, t, hct⟩ := h
  rcases Nat.lt_or_ge b w.heap.size with hlt | hge
  · exact hlt
  · rw [Array.getElem?_eq_none hge] at hct; cases hct

/-- A NEW CLASS: what lies under the classes 'K' goes over into it. -/
theorem Inv.newClass (h : Inv F s σ a w g) {n : Nat} (hn : n < F.n) {e0 : Nat} (he0 : s.U e0 = false) {K : List Nat} {m : CM} {c : C} {v : Value} {LM : List Nat} {s1 : SS} {w1 : World}
    (ht : s1.t = upd s.t n (.c m)) (hb : s1.b = s.b) (hp : s1.p = (s.cutT n).p) (ha : s1.a = (s.cutT n).a) (hU : s1.U = upd s.U e0 true) (hL : ∀ e, s1.L e = true ↔ e = e0 ∨ (s.L e = true ∧ e ∉ K))
    (hw : w.heap.size ≤ w1.heap.size) (hos : w1.os = w.os) (htape : w1.tape = w.tape) (hout : w1.output = w.output)
    (hheap : ∀ b, b < w.heap.size → (∀ e ∈ K, s.L e = true → b ∉ g.lam e) → w1.heap[b]? = w.heap[b]?)
    (hLM : ∀ b ∈ LM, (w.heap.size ≤ b ∨ ∃ e ∈ K, s.L e = true ∧ b ∈ g.lam e) ∧ open? w1 b)
    (hC : Mv F s s1 σ (σ.put (some n) (.c c)) a (a.put (some n) v) w w1 g { g with lam := upd g.lam e0 LM } (· = n) (fun _ => False) (fun _ => False) → CellOK (s1.cx w1 { g with lam := upd g.lam e0 LM }) v c m)
    (hm : ∀ e ∈ m.deps, s1.U e = true) : Inv F s1 (σ.put (some n) (.c c)) (a.put (some n) v) w1 { g with lam := upd g.lam e0 LM } := by
  have hns : n < a.tmps.size := by rw [h.size]; exact hn
  have hne : ∀ e, s.U e = true → e ≠ e0 := fun e he h => by rw [h, he0] at he; cases he
  have hmv : Mv F s s1 σ (σ.put (some n) (.c c)) a (a.put (some n) v) w w1 g { g with lam := upd g.lam e0 LM } (· = n) (fun _ => False) (fun _ => False) := by
    constructor
    · exact hw
    · exact hos
    · exact htape
    · exact hout
    · rfl
    · intro e he hu
      exact ⟨(((hL e).1 he).resolve_left (hne e hu)).1, upd_ne _ _ (hne e hu)⟩
    · intro e he hu b hbe
      have : e = e0 := by
        rcases (hL e).1 he with h1 | h1
        · exact h1
        · have := h.used e h1.1; rw [hu] at this; cases this
      subst this
      simp only [upd_same] at hbe
      rcases (hLM b hbe).1 with h1 | ⟨e', he', hL', hb'⟩
      · exact .inl h1
      · refine .inr ⟨e', hL', ?_, hb'⟩
        cases hh : s1.L e' with
        | false => rfl
        | true =>
          rcases (hL e').1 hh with h1 | h1
          · exact absurd h1 (hne e' (h.used e' hL'))
          · exact absurd he' h1.2
    · intro b hbl hdead _
      refine hheap b hbl fun e he hLe => hdead e hLe ?_
      cases hh : s1.L e with
      | false => rfl
      | true =>
        rcases (hL e).1 hh with h1 | h1
        · exact absurd h1 (hne e (h.used e hLe))
        · exact absurd he h1.2
    · intro k hk _; rw [hb] at hk; exact ⟨hk, rfl⟩
    · intro k _ hN; exact hN.elim
    · intro k hk; exact hk.elim
    · intro k hk
      exact ⟨by rw [ht]; exact upd_ne _ _ hk, upd_ne _ _ hk, by rw [put_get a n k _ hns, if_neg hk]⟩
    · intro k _ _; exact ⟨by rw [hb], rfl⟩
    · intro e he; rw [hU]; by_cases h' : e = e0
      · rw [h', upd_same]
      · rw [upd_ne _ _ h']; exact he
  have hnew : ∀ e, s1.L e = true → s.U e = false → e = e0 := by
    intro e he hu
    rcases (hL e).1 he with h1 | h1
    · exact h1
    · have := h.used e h1.1; rw [hu] at this; cases this
  refine h.mv hmv ?_ h.defers ?_ ?_ ?_ ?_ ?_ ?_ ?_ ?_ (fun i k _ hk => (hk.elim id id).elim) (fun k hk => hk.elim)
  · simp only [Act.put, Array.size_setIfInBounds]; exact h.size
  · intro e he hu
    have := hnew e he hu
    subst this
    simp only [upd_same]
    refine ⟨fun b hbe => ⟨?_, (hLM b hbe).2⟩, by rw [hU, upd_same]⟩
    rcases (hLM b hbe).1 with h1 | ⟨e', _, hL', hb'⟩
    · exact .inl (Nat.le_trans h.kept.size h1)
    · exact (h.live e' hL' b hb').1
  · intro e e' he he' hu hu' hee
    exact absurd ((hnew e he hu).trans (hnew e' he' hu').symm) hee
  · intro k hk
    subst hk
    rw [put_get a k k _ hns, if_pos rfl, ht, upd_same]
    simp only [S.put, upd_same]
    exact ⟨TOK.cell (hC hmv), hm⟩
  · intro k ms hk; exact (hk.elim id id).elim
  · intro k hk; exact hk.elim
  · intro k k' hk; exact hk.elim
  · intro k q gd' hk
    rw [hp] at hk
    obtain ⟨h1, h2, h3, h4⟩ := cutT_p s n k q gd' hk
    exact .inl ⟨h4, h1, fun t ht he => h2 (he ▸ ht), fun t ht he => h3 (he ▸ ht), fun b _ => ⟨id, id⟩, fun b o _ => ⟨id, fun hbs => by rw [hb]; exact hbs⟩⟩
  · intro k p q hk
    rw [ha] at hk
    obtain ⟨h1, h2, h3, h4⟩ := cutT_a s n k p q hk
    exact .inl ⟨h4, h1, fun t ht he => h2 (he ▸ ht), fun t ht he => h3 (he ▸ ht), fun b _ => ⟨id, id⟩⟩

theorem fresh_spec {e : Nat} {s1 : SS} (h : s.fresh e = some s1) : s.U e = false ∧ s1 = { s with L := upd s.L e true, U := upd s.U e true } := by
  unfold SS.fresh at h
  split at h
  · cases h
  · rename_i hu
    cases h
    exact ⟨by simpa using hu, rfl⟩

theorem flatten_replicate_get {α : Type} (l : List α) : ∀ (n j : Nat), j < n * l.length → ((List.replicate n l).flatten)[j]? = l[j % l.length]?
  | 0, j, h => by simp at h
  | n + 1, j, h => by
    rw [List.replicate_succ, List.flatten_cons]
    by_cases hj : j < l.length
    · rw [List.getElem?_append_left hj, Nat.mod_eq_of_lt hj]
    · rw [List.getElem?_append_right (by omega), flatten_replicate_get l n (j - l.length) (by rw [Nat.add_mul] at h; omega), ← Nat.mod_eq_sub_mod (by omega)]

theorem madeCells_toList (z : Array Value) (n : Nat) : (madeCells z (n * z.size)).toList = (List.replicate n z.toList).flatten := by
  apply List.ext_getElem?
  intro j
  by_cases hj : j < n * z.size
  · have hpos : 0 < z.size := by
      rcases Nat.eq_zero_or_pos z.size with h | h
      · rw [h] at hj; omega
      · exact h
    have hm : j % z.size < z.size := Nat.mod_lt _ hpos
    rw [flatten_replicate_get z.toList n j (by simpa using hj)]
    simp [madeCells, hj, hm]
  · rw [List.getElem?_eq_none (by simp [madeCells]; omega), List.getElem?_eq_none (by simp; omega)]

theorem zeros_reps {w : World} {ks : List K} {zs : List Value} (h : fitsAll ks zs = true) : Reps w zs (ks.map K.zero) ∧ fps w zs (ks.map K.zero) = [] := by
  obtain ⟨h1, h2⟩ := fits_get h
  have hR : Reps w zs (ks.map K.zero) := Reps.of (by simp [h1]) fun j v c hv hc => by
    rw [List.getElem?_map] at hc
    obtain ⟨k, hk, rfl⟩ := Option.map_eq_some_iff.1 hc
    exact (K.zero_rep (h2 j k v hk hv)).1
  refine ⟨hR, ?_⟩
  clear hR h1
  induction ks generalizing zs with
  | nil => cases zs <;> rfl
  | cons k ks ih =>
    cases zs with
    | nil => rfl
    | cons z zs =>
      simp only [fitsAll, Bool.and_eq_true] at h
      simp only [List.map_cons, fps, (K.zero_rep (w := w) h.1).2, List.nil_append]
      exact ih h.2 (fits_get h.2).2

theorem zeros_rows {w : World} {ks : List K} {zs : List Value} (h : fitsAll ks zs = true) : ∀ n : Nat, Reps w (List.replicate n zs).flatten (List.replicate n (ks.map K.zero)).flatten ∧ fps w (List.replicate n zs).flatten (List.replicate n (ks.map K.zero)).flatten = []
  | 0 => by simp [Reps, fps]
  | n + 1 => by
    obtain ⟨h1, h2⟩ := zeros_reps (w := w) h
    obtain ⟨h3, h4⟩ := zeros_rows h n
    simp only [List.replicate_succ, List.flatten_cons]
    exact ⟨Reps.append h1 h3, by rw [fps_append _ _ _ _ _ h1.length, h2, h4]; rfl⟩

/-- A slice on a whole new row. -/
theorem row_rep {w1 : World} {b cap sz : Nat} {rows : List (List C)} {cells : Array Value} {vs : List Value} (hb : rowOf w1 b = some cells) (hcap : cap * sz ≤ cells.size) (hle : rows.length ≤ cap) (hsz : ∀ row ∈ rows, row.length = sz)
    (hR : Reps w1 vs rows.flatten) (hv : ∀ (j : Nat) (v : Value), vs[j]? = some v → cells[j]? = some v) :
    Rep w1 (.slice (some ⟨b, 0, none⟩) rows.length cap) (.sl sz rows) ∧ fp w1 (.slice (some ⟨b, 0, none⟩) rows.length cap) (.sl sz rows) = if cap = 0 then [] else b :: fps w1 vs rows.flatten := by
  obtain ⟨r1, r2⟩ := RepRows.ofReps hb rows vs 0 hsz hR (by simpa using hv)
  refine ⟨?_, ?_⟩
  · simp only [Rep]
    exact ⟨_, _, rfl, hle, fun _ => ⟨rfl, ⟨cells, hb, by simpa using hcap⟩, r1⟩⟩
  · simp only [fp, r2]

theorem fin_mks (h : Inv F s σ a w g) {o : Oper} (hd : ∀ k, o.dst = some k → k < F.n) {t e : TypeId} {l l2 : Operand} {ll : X} {ks : List K} (ho : o.op = .makeSlice t l l2) (hsame : sameX l l2 = true) (hl : normX P 0 l = some ll)
    (ht : P.underlying t = some (.slice e)) (hk : kinds P e = some ks)
    (h1 : step Φ o.dst (.mks ks (P.bytesOf e) ll) σ = some σ1) (h2 : sstep G ro gd o.dst (.mks ks (P.bytesOf e) ll) s = some s1) : Fin P F o s1 σ1 a w := by
  simp only [step] at h1
  simp only [sstep] at h2
  split at h2
  · rename_i n hdst
    split at h2
    · rename_i hsc
      split at h2
      · rename_i s0 hfr
        cases h2
        obtain ⟨hU0, rfl⟩ := fresh_spec hfr
        split at h1
        · rename_i j hj
          split at h1
          · rename_i hc
            obtain ⟨hj0, hjb, hjm⟩ := hc
            cases h1
            obtain ⟨ki, hv⟩ := h.idx hl hsc hj
            have hv2 : a.eval l2 = .int ki j := by
              unfold sameX at hsame
              split at hsame
              · simp only [beq_iff_eq] at hsame; subst hsame; exact hv
              · simp only [Bool.and_eq_true, beq_iff_eq] at hsame; obtain ⟨rfl, rfl⟩ := hsame; exact hv
              · cases hsame
            obtain ⟨_, i, z, hi, hs, hpos, hz, hf⟩ := kinds_info hk
            have hzs : z.cells.size = ks.length := by have := (fits_get hf).1; simpa using this
            have hbytes : P.bytesOf e = i.bytes := by simp [Program.bytesOf, hi]
            rw [hbytes] at hjb
            have hjj : (j.toNat : Int) = j := Int.toNat_of_nonneg hj0
            have hrun := run_make (P := P) w t e i z ht hi hz ki ki j j hj0 (Int.le_refl _) (by
              rw [← hjj, ← Int.natCast_mul]
              simp only [maxBytes] at hjb
              rw [Nat.mul_comm]; omega) (by simp only [maxStr] at hjm; omega)
            rw [hs] at hrun
            have hml : (madeCells z.cells (j.toNat * ks.length)).toList = (List.replicate j.toNat z.cells.toList).flatten := by rw [← hzs, madeCells_toList]
            refine ⟨.value (.slice (some ⟨w.heap.size, 0, none⟩) j.toNat j.toNat), _, w.alloc (.cells (madeCells z.cells (j.toNat * ks.length)) e), { g with lam := upd g.lam (atom n 0) [w.heap.size] }, ?_, .inl rfl, ?_⟩
            · simp only [execOp, ho, hv, hv2, Sem.run_bind, hrun, Result.andThen_ok, Sem.run_pure]
            · rw [hdst]
              have hnb : rowOf (w.alloc (.cells (madeCells z.cells (j.toNat * ks.length)) e)) w.heap.size = some (madeCells z.cells (j.toNat * ks.length)) := rowOf_box (World.get_alloc_new _ _)
              refine h.newClass (hd n hdst) hU0 (K := []) (s1 := ({ s with L := upd s.L (atom n 0) true, U := upd s.U (atom n 0) true } : SS).put (some n) (.c ⟨[atom n 0], 2⟩)) rfl rfl rfl rfl rfl (fun e' => ?_) (by simp) rfl rfl rfl (fun b hb _ => World.get_alloc_lt _ _ hb) (fun b hb => ?_) (fun hmv => ?_) (fun e' he' => ?_)
              · by_cases he : e' = atom n 0
                · simp [SS.put, SS.cutT, he, upd_same]
                · simp [SS.put, SS.cutT, upd_ne _ _ he, he]
              · simp only [List.mem_singleton] at hb
                subst hb
                exact ⟨.inl (Nat.le_refl _), _, _, World.get_alloc_new _ _⟩
              · obtain ⟨z1, z2⟩ := zeros_rows (w := w.alloc (.cells (madeCells z.cells (j.toNat * ks.length)) e)) hf j.toNat
                have hrl : (List.replicate j.toNat (ks.map K.zero)).length = j.toNat := by simp
                obtain ⟨r1, r2⟩ := row_rep (cap := j.toNat) (sz := ks.length) (rows := List.replicate j.toNat (ks.map K.zero)) hnb (by simp [madeCells]) (by simp) (by intro row hrow; rw [List.eq_of_mem_replicate hrow]; simp) z1 (by
                  intro q v hq
                  rw [← hml] at hq
                  simpa using hq)
                rw [hrl, z2] at r2
                rw [hrl] at r1
                refine ⟨r1.hd, fun _ => ⟨r1, ?_⟩⟩
                show FpOK _ _ (fp (w.alloc _) _ _)
                rw [r2]
                split
                · exact FpOK.nil _ _
                refine ⟨fun b hb => ?_, fun _ => ⟨by simp, fun b hb => ⟨atom n 0, by simp, ?_⟩⟩, fun ho => by simp at ho⟩
                · simp only [List.mem_singleton] at hb
                  subst hb
                  refine ⟨fun k hk he => ?_, fun e' he' hbe => ?_, ?_⟩
                  · obtain ⟨ms, hms⟩ := Option.isSome_iff_exists.1 (show (s.b k).isSome = true from hk)
                    obtain ⟨_, cells, ty, hheap, _⟩ := h.boxes k ms hms
                    have he' : w.heap.size = g.bet k := he
                    rw [← he', Array.getElem?_eq_none (Nat.le_refl _)] at hheap
                    cases hheap
                  · by_cases hee : e' = atom n 0
                    · simp [hee]
                    · have hLe : s.L e' = true := by
                        have : upd s.L (atom n 0) true e' = true := he'
                        rwa [upd_ne _ _ hee] at this
                      have hbe' : w.heap.size ∈ g.lam e' := by
                        have : w.heap.size ∈ upd g.lam (atom n 0) [w.heap.size] e' := hbe
                        rwa [upd_ne _ _ hee] at this
                      have := open_lt (h.live e' hLe _ hbe').2
                      omega
                  · exact (h.reach _).2 (.inl (.inl h.kept.size))
                · simp only [List.mem_singleton] at hb
                  subst hb
                  show w.heap.size ∈ upd g.lam (atom n 0) [w.heap.size] (atom n 0)
                  simp [upd_same]
              · simp only [List.mem_singleton] at he'
                subst he'
                show upd s.U (atom n 0) true (atom n 0) = true
                rw [upd_same]
          · cases h1
        · cases h1
      · cases h2
    · cases h2
  · cases h2
end
end Go.Opt
/- Each operation, by itself: cells laid over others: stores into boxes, structs that are built. -/
set_option linter.unusedVariables false
namespace Go.Opt
open Go.RowKit

theorem splice_length {α : Type} (l : List α) (k : Nat) (cs : List α) (h : k + cs.length ≤ l.length) : (l.take k ++ cs ++ l.drop (k + cs.length)).length = l.length := by
  simp; omega

theorem splice_get {α : Type} (l : List α) (k : Nat) (cs : List α) (h : k + cs.length ≤ l.length) (j : Nat) :
    (l.take k ++ cs ++ l.drop (k + cs.length))[j]? = if k ≤ j ∧ j < k + cs.length then cs[j - k]? else l[j]? := by
  by_cases h1 : j < k
  · rw [if_neg (by omega), List.append_assoc, List.getElem?_append_left (by simp; omega), List.getElem?_take, if_pos h1]
  · by_cases h2 : j < k + cs.length
    · rw [if_pos (by omega), List.append_assoc, List.getElem?_append_right (by simp; omega), List.getElem?_append_left (by simp; omega)]
      congr 1; simp; omega
    · rw [if_neg (by omega), List.getElem?_append_right (by simp; omega), List.getElem?_drop]
      congr 1; simp; omega

theorem overlaps_false {a b : List Nat} (h : overlaps a b = false) : ∀ e ∈ a, e ∉ b := by
  simp only [overlaps, List.any_eq_false, List.contains_eq_mem, decide_eq_true_eq] at h
  exact h

/-- The new ones' modes. -/
def layNew (l : List CM) (k : Nat) (ms : List CM) : List CM :=
  ms.map (fun m => if 2 ≤ m.own ∧ overlaps m.deps (owned (l.take k) ++ owned (l.drop (k + ms.length))) then { m with own := 0 } else m)

theorem layM_eq (l : List CM) (k : Nat) (ms : List CM) : layM l k ms = l.take k ++ layNew l k ms ++ l.drop (k + (layNew l k ms).length) := by
  simp only [layM, layNew, List.length_map]

theorem layNew_length (l : List CM) (k : Nat) (ms : List CM) : (layNew l k ms).length = ms.length := by simp [layNew]

/-- Two owned cells under the same living classes. -/
theorem CellOK.apart {x : Cx} {v v' : Value} {c c' : C} {m m' : CM} (h : CellOK x v c m) (h' : CellOK x v' c' m') (ho : 2 ≤ m.own) (hal : alive x.L m = true) (hal' : alive x.L m' = true) (hd : ∀ e ∈ m.deps, e ∉ m'.deps) :
    ∀ b ∈ fp x.w v c, b ∉ fp x.w v' c' := by
  intro b hb hb'
  obtain ⟨_, _, f2, _⟩ := h.2 hal
  obtain ⟨_, f1, _, _⟩ := h'.2 hal'
  obtain ⟨e, he, hbe⟩ := (f2 ho).2 b hb
  have hL : x.L e = true := by
    simp only [alive, List.all_eq_true] at hal
    exact hal e he
  exact hd e he ((f1 b hb').2.1 e hL hbe)

theorem mem_owned {l : List CM} {j : Nat} {m : CM} (h : l[j]? = some m) (ho : 2 ≤ m.own) : ∀ e ∈ m.deps, e ∈ owned l := by
  intro e he
  simp only [owned, List.mem_flatMap]
  exact ⟨m, List.mem_of_getElem? h, by rw [if_pos ho]; exact he⟩

/-- CELLS LAID OVER OTHERS. -/
theorem CellsOK.lay {x : Cx} {vs vs' : List Value} {cs cs' : List C} {ms ms' : List CM} (h : CellsOK x vs cs ms) (h' : CellsOK x vs' cs' ms') (k : Nat) (hk : k + ms'.length ≤ ms.length) :
    CellsOK x (vs.take k ++ vs' ++ vs.drop (k + vs'.length)) (splice cs k cs') (layM ms k ms') := by
  have l1 := h.lenV
  have l2 := h.lenC
  have l3 := h'.lenV
  have l4 := h'.lenC
  have gV : ∀ j, (vs.take k ++ vs' ++ vs.drop (k + vs'.length))[j]? = if k ≤ j ∧ j < k + ms'.length then vs'[j - k]? else vs[j]? := fun j => by rw [splice_get vs k vs' (by omega), l3]
  have gC : ∀ j, (splice cs k cs')[j]? = if k ≤ j ∧ j < k + ms'.length then cs'[j - k]? else cs[j]? := fun j => by unfold splice; rw [splice_get cs k cs' (by omega), l4]
  have gM : ∀ j, (layM ms k ms')[j]? = if k ≤ j ∧ j < k + ms'.length then (layNew ms k ms')[j - k]? else ms[j]? := fun j => by
    rw [layM_eq, splice_get ms k _ (by rw [layNew_length]; omega), layNew_length]
  have hnew : ∀ (j : Nat) (q : CM), (layNew ms k ms')[j]? = some q → ∃ m, ms'[j]? = some m ∧ q.deps = m.deps ∧ (q.own = m.own ∨ q.own = 0) ∧ (2 ≤ q.own → 2 ≤ m.own ∧ ∀ e ∈ q.deps, e ∉ owned (ms.take k) ++ owned (ms.drop (k + ms'.length))) := by
    intro j q hq
    simp only [layNew, List.getElem?_map, Option.map_eq_some_iff] at hq
    obtain ⟨m, hm, rfl⟩ := hq
    refine ⟨m, hm, ?_⟩
    split
    · exact ⟨rfl, .inr rfl, fun h => by simp at h⟩
    · rename_i hn
      refine ⟨rfl, .inl rfl, fun ho => ⟨ho, ?_⟩⟩
      simp only [ho, true_and, Bool.not_eq_true] at hn
      exact overlaps_false hn
  have hcell : ∀ (j : Nat) (v : Value) (c : C) (q : CM), vs'[j]? = some v → cs'[j]? = some c → (layNew ms k ms')[j]? = some q → CellOK x v c q := by
    intro j v c q hv hc hq
    obtain ⟨m, hm, hd, ho, ho2⟩ := hnew j q hq
    refine (h'.each j v c m hv hc hm).weaken (by rw [hd]; exact fun e he => he) (fun h => (ho2 h).1) fun h => ?_
    rcases ho with ho | ho
    · rw [← ho, hd]; exact ⟨h, rfl⟩
    · rw [ho] at h; simp at h
  refine ⟨?_, ?_, ?_, ?_⟩
  · rw [splice_length _ _ _ (by omega), layM_eq, splice_length _ _ _ (by rw [layNew_length]; omega)]; exact l1
  · unfold splice; rw [splice_length _ _ _ (by omega), layM_eq, splice_length _ _ _ (by rw [layNew_length]; omega)]; exact l2
  · intro j v c m hv hc hm
    rw [gV] at hv; rw [gC] at hc; rw [gM] at hm
    split at hv
    · rename_i hj; rw [if_pos hj] at hc hm; exact hcell _ v c m hv hc hm
    · rename_i hj; rw [if_neg hj] at hc hm; exact h.each j v c m hv hc hm
  · intro i j v v' c c' m m' hij hv hc hm hv' hc' hm' ho ho' hal hal'
    rw [gV] at hv hv'; rw [gC] at hc hc'; rw [gM] at hm hm'
    -- an old owned one's classes are among the others'
    have hold : ∀ (j : Nat) (m : CM), ¬ (k ≤ j ∧ j < k + ms'.length) → ms[j]? = some m → 2 ≤ m.own → ∀ e ∈ m.deps, e ∈ owned (ms.take k) ++ owned (ms.drop (k + ms'.length)) := by
      intro j m hj hm ho e he
      by_cases h1 : j < k
      · exact List.mem_append_left _ (mem_owned (l := ms.take k) (j := j) (by rw [List.getElem?_take, if_pos h1]; exact hm) ho e he)
      · refine List.mem_append_right _ (mem_owned (l := ms.drop (k + ms'.length)) (j := j - (k + ms'.length)) ?_ ho e he)
        rw [List.getElem?_drop, show k + ms'.length + (j - (k + ms'.length)) = j by omega]; exact hm
    split at hv
    · rename_i hi
      rw [if_pos hi] at hc hm
      split at hv'
      · rename_i hj
        rw [if_pos hj] at hc' hm'
        obtain ⟨m0, hm0, hd0, _, ho0⟩ := hnew _ _ hm
        obtain ⟨m1, hm1, hd1, _, ho1⟩ := hnew _ _ hm'
        refine h'.apart (i - k) (j - k) v v' c c' m0 m1 (by omega) hv hc hm0 hv' hc' hm1 (ho0 ho).1 (ho1 ho').1 ?_ ?_
        · simp only [alive, hd0] at hal ⊢; exact hal
        · simp only [alive, hd1] at hal' ⊢; exact hal'
      · rename_i hj
        rw [if_neg hj] at hc' hm'
        obtain ⟨m0, hm0, hd0, _, ho0⟩ := hnew _ _ hm
        exact (hcell _ v c m hv hc hm).apart (h.each j v' c' m' hv' hc' hm') ho hal hal' fun e he he' => (ho0 ho).2 e he (hold j m' hj hm' ho' e he')
    · rename_i hi
      rw [if_neg hi] at hc hm
      split at hv'
      · rename_i hj
        rw [if_pos hj] at hc' hm'
        obtain ⟨m1, hm1, hd1, _, ho1⟩ := hnew _ _ hm'
        intro b hb hb'
        exact (hcell _ v' c' m' hv' hc' hm').apart (h.each i v c m hv hc hm) ho' hal' hal (fun e he he' => (ho1 ho').2 e he (hold i m hi hm ho e he')) b hb' hb
      · rename_i hj
        rw [if_neg hj] at hc' hm'
        exact h.apart i j v v' c c' m m' hij hv hc hm hv' hc' hm' ho ho' hal hal'

theorem layM_deps {ms ms' : List CM} {k : Nat} : ∀ m ∈ layM ms k ms', ∀ e ∈ m.deps, (∃ q ∈ ms, e ∈ q.deps) ∨ ∃ q ∈ ms', e ∈ q.deps := by
  intro m hm e he
  rw [layM_eq] at hm
  simp only [List.mem_append] at hm
  rcases hm with (hm | hm) | hm
  · exact .inl ⟨m, List.mem_of_mem_take hm, he⟩
  · simp only [layNew, List.mem_map] at hm
    obtain ⟨q, hq, rfl⟩ := hm
    refine .inr ⟨q, hq, ?_⟩
    split at he <;> exact he
  · exact .inl ⟨m, List.mem_of_mem_drop hm, he⟩

section
variable {P : Program} {F : Frm} {s : SS} {σ : S} {a : Act} {w : World} {g : Gh} {Φ : Cl'} {G : Nat → Option Sg} {ro : List Nat} {gd : Option (Nat × Bool)} {σ1 : S} {s1 : SS}

theorem CellsOK.one_cell {x : Cx} {vs : List Value} {cs : List C} {ms : List CM} (h : CellsOK x vs cs ms) : ∀ v ∈ vs, v.oneCell' = true := by
  intro v hv
  obtain ⟨j, hj, rfl⟩ := List.getElem_of_mem hv
  have h1 : j < cs.length := by rw [h.lenC, ← h.lenV]; exact hj
  have h2 : j < ms.length := by rw [← h.lenV]; exact hj
  have := (h.each j _ _ _ (List.getElem?_eq_getElem hj) (List.getElem?_eq_getElem h1) (List.getElem?_eq_getElem h2)).1
  generalize vs[j] = v at this
  generalize cs[j] = c at this
  cases c with
  | sl s r => obtain ⟨base, cap, rfl, _⟩ := this; rfl
  | _ => simp only [Hd] at this; subst this; rfl

theorem run_storeK {t : TypeId} {ks : List K} (hk : kinds P t = some ks) {b off : Nat} {v : Value} {cur : Array Value} {ty : TypeId} (hb : w.heap[b]? = some (.cells cur ty (0, 0))) (hl : v.cells.toList.length = ks.length) (hfit : off + ks.length ≤ cur.size)
    (h1 : ∀ u ∈ v.cells.toList, u.oneCell' = true) :
    (Instr.storeAt t (.pointer (some ⟨b, off, none⟩)) v).run P w = .ok () (w.setRow b (cur.toList.take off ++ v.cells.toList ++ cur.toList.drop (off + v.cells.toList.length)).toArray) := by
  have hst := run_storeCells_at P b off ty v.cells.toList 0 cur w hb (by omega) h1
  simp only [Nat.add_zero] at hst
  have hsz : ¬ (v.cells.size ≠ ks.length) := by rw [← Array.length_toList, hl]; simp
  simp only [Instr.storeAt, Instr.sureAddr, storeVar, Sem.run_bind, Sem.run_pure, Result.andThen_ok, run_sizeOfT hk, Sem.run_ite, if_neg hsz, hst]

theorem fin_stB (h : Inv F s σ a w g) {o : Oper} (hdn : o.dst = none) (hro : ∀ i k, (i, k) ∈ F.ro → k ∈ ro) (hg : guardHolds σ gd) {t : TypeId} {n b off : Nat} {x : Operand} {xx : X} {ks : List K} (ho : o.op = .store t (.tmp n) x) (hx : normX P t x = some xx) (hk : kinds P t = some ks)
    (h1 : step Φ o.dst (.stB ks.length n b off xx) σ = some σ1) (h2 : sstep G ro gd o.dst (.stB ks.length n b off xx) s = some s1) : Fin P F o s1 σ1 a w := by
  simp only [step] at h1
  simp only [sstep] at h2
  split at h2
  · rename_i hh
    split at h2
    · rename_i ms ms' hbm hxm
      split at h2
      · rename_i hc2
        cases h2
        split at h1
        · rename_i cs' hcs
          split at h1
          · rename_i hc1
            cases h1
            have hP := h.holds hh.1 hg
            simp only [PtrOK] at hP
            obtain ⟨hmine, cells, ty, hheap, hC⟩ := h.boxes b ms hbm
            obtain ⟨hT, hU⟩ := h.x hx
            have hCx := hT.cellsOf hxm hcs
            have hlx : (a.eval x).cells.toList.length = ks.length := by rw [hCx.lenV]; exact hc2.1
            have hfit : off + ks.length ≤ cells.size := by have := hC.lenV; simp at this; omega
            have hrun := run_storeK (w := w) hk hheap hlx hfit hCx.one_cell
            refine ⟨.skip, undef, w.setRow (g.bet b) (cells.toList.take off ++ (a.eval x).cells.toList ++ cells.toList.drop (off + (a.eval x).cells.toList.length)).toArray, g, ?_, .inr ⟨rfl, rfl⟩, ?_⟩
            · have hev : a.eval (.tmp n) = _ := hP.2
              simp only [execOp, ho, hev, Sem.run_bind, hrun, Result.andThen_ok, Sem.run_pure]
            · rw [hdn]
              have hmv : Mv F s { s.cutB b with b := upd s.b b (some (layM ms off ms')) } σ (σ.setB b (splice (σ.b b) off cs')) a (a.put none undef) w (w.setRow (g.bet b) (cells.toList.take off ++ (a.eval x).cells.toList ++ cells.toList.drop (off + (a.eval x).cells.toList.length)).toArray) g g (fun _ => False) (· = b) (fun _ => False) := by
                constructor
                · simp [World.setRow]
                · rfl
                · rfl
                · rfl
                · rfl
                · intro e he _; exact ⟨he, rfl⟩
                · intro e he hU
                  have : s.U e = true := h.used e he
                  rw [hU] at this; cases this
                · intro b' _ _ hB
                  exact setRow_other w _ b' _ (hB b (by rw [hbm]; rfl) rfl)
                · intro k hk _
                  by_cases e : k = b
                  · subst e; exact ⟨by rw [hbm]; rfl, rfl⟩
                  · simp only [upd_ne _ _ e] at hk; exact ⟨hk, rfl⟩
                · intro k _ hN; exact hN.elim
                · intro k hk; subst hk; right; simp [upd_same]
                · intro k _; exact ⟨rfl, rfl, rfl⟩
                · intro k hk _; exact ⟨upd_ne _ _ hk, upd_ne _ _ hk⟩
                · exact fun e he => he
              refine h.mv hmv h.size h.defers ?_ ?_ ?_ ?_ ?_ ?_ ?_ ?_ (fun i k hi hk _ => by
                have hk : k = b := hk.elim id (fun h => h.elim)
                subst hk
                have := hh.2
                simp [hro i k hi] at this) (fun k hk => hk.elim)
              · intro e he hU
                have : s.U e = true := h.used e he
                rw [hU] at this; cases this
              · intro e e' he _ hU
                have : s.U e = true := h.used e he
                rw [hU] at this; cases this
              · intro k hk; exact hk.elim
              · intro k ms1 hk hms1
                have hk : k = b := hk.elim id (fun h => h.elim)
                subst hk
                simp only [upd_same, Option.some.injEq] at hms1
                subst hms1
                refine ⟨fun hN => hN.elim, ⟨_, ty, setRow_heap w _ cells _ ty _ hheap, ?_⟩, ?_⟩
                · simp only [S.setB, upd_same]
                  have c1 := hC.mv hmv (h.usedB k ms hbm)
                  have c2 := hCx.mv hmv fun m hm e he => hU e (M.cells_deps hxm m hm e he)
                  exact c1.lay c2 off (by omega)
                · intro m hm e he
                  rcases layM_deps m hm e he with ⟨q, hq, hqe⟩ | ⟨q, hq, hqe⟩
                  · exact h.usedB k ms hbm q hq e hqe
                  · exact hU e (M.cells_deps hxm q hq e hqe)
              · intro k hk; exact hk.elim
              · intro k k' hk; exact hk.elim
              · intro k q gd' hk
                obtain ⟨h5, h6⟩ := cutB_p s b k q gd' hk
                exact .inl ⟨h6, id, fun _ _ => id, fun _ _ => id, fun b' hb' => ⟨fun he => h5 (he ▸ hb'), id⟩, fun b' o' _ => ⟨id, fun hbs => by
                  by_cases e : b' = b
                  · subst e; simp [upd_same]
                  · simp only [upd_ne _ _ e]; exact hbs⟩⟩
              · intro k p q hk
                obtain ⟨h5, h6⟩ := cutB_a s b k p q hk
                exact .inl ⟨h6, id, fun _ _ => id, fun _ _ => id, fun b' hb' => ⟨fun he => h5 (he ▸ hb'), id⟩⟩
          · cases h1
        · cases h1
      · cases h2
    · cases h2
  · cases h2
end
end Go.Opt
/- Each operation, by itself: stores into elements. -/
set_option linter.unusedVariables false
namespace Go.Opt
open Go.RowKit

section
variable {P : Program} {F : Frm} {s : SS} {σ : S} {a : Act} {w : World} {g : Gh} {Φ : Cl'} {G : Nat → Option Sg} {ro : List Nat} {gd : Option (Nat × Bool)} {σ1 : S} {s1 : SS}

/-- The state behind: a class dies, one is new, a place's cell has another mode. -/
def SS.turn (s : SS) (e0 : Nat) (K : List Nat) (p : Place) (m : CM) : SS := (({ s with L := upd s.L e0 true, U := upd s.U e0 true } : SS).kill K).setMode p m

theorem turn_L (s : SS) (e0 : Nat) (K : List Nat) (p : Place) (m : CM) (he : e0 ∉ K) (e : Nat) : (s.turn e0 K p m).L e = true ↔ e = e0 ∨ (s.L e = true ∧ e ∉ K) := by
  have : (s.turn e0 K p m).L e = (upd s.L e0 true e && !K.contains e) := by
    cases p with
    | tmp t => rfl
    | box b j => simp only [SS.turn, SS.setMode, SS.kill]; split <;> rfl
  rw [this]
  by_cases h : e = e0
  · subst h; simp [upd_same, he]
  · simp [upd_ne _ _ h, h]

theorem turn_U (s : SS) (e0 : Nat) (K : List Nat) (p : Place) (m : CM) : (s.turn e0 K p m).U = upd s.U e0 true := by
  cases p with
  | tmp t => rfl
  | box b j => simp only [SS.turn, SS.setMode, SS.kill]; split <;> rfl

theorem Inv.setPlace (h : Inv F s σ a w g) {p : Place} {m m' : CM} {c c' : C} {u : Value} {us : List Value} (hm : modeAt s p = some m) (hc : σ.cellAt p = some c) (hpl : Opt.placeV w g a p = some (u :: us))
    {e0 : Nat} (he0 : s.U e0 = false) {K LM : List Nat} (hK : e0 ∉ K) {w1 : World}
    (hw : w.heap.size ≤ w1.heap.size) (hos : w1.os = w.os) (htape : w1.tape = w.tape) (hout : w1.output = w.output)
    (hheap : ∀ b, b < w.heap.size → (∀ e ∈ K, s.L e = true → b ∉ g.lam e) → w1.heap[b]? = w.heap[b]?)
    (hLM : ∀ b ∈ LM, (w.heap.size ≤ b ∨ ∃ e ∈ K, s.L e = true ∧ b ∈ g.lam e) ∧ open? w1 b)
    (hC : ∀ (T B : Nat → Prop), Mv F s (s.turn e0 K p m') σ (σ.setCell p c') a (a.put none undef) w w1 g { g with lam := upd g.lam e0 LM } T B (fun _ => False) → CellOK ((s.turn e0 K p m').cx w1 { g with lam := upd g.lam e0 LM }) u c' m')
    (hm' : ∀ e ∈ m'.deps, upd s.U e0 true e = true) :
    Inv F (s.turn e0 K p m') (σ.setCell p c') (a.put none undef) w1 { g with lam := upd g.lam e0 LM } := by
  have hne : ∀ e, s.U e = true → e ≠ e0 := fun e he h => by rw [h, he0] at he; cases he
  have hL := turn_L s e0 K p m' hK
  have hU := turn_U s e0 K p m'
  have hnew : ∀ e, (s.turn e0 K p m').L e = true → s.U e = false → e = e0 := by
    intro e he hu
    rcases (hL e).1 he with h1 | h1
    · exact h1
    · have := h.used e h1.1; rw [hu] at this; cases this
  have hdead : ∀ e ∈ K, s.L e = true → (s.turn e0 K p m').L e = false := by
    intro e he hLe
    cases hh : (s.turn e0 K p m').L e with
    | false => rfl
    | true =>
      rcases (hL e).1 hh with h1 | h1
      · exact absurd h1 (hne e (h.used e hLe))
      · exact absurd he h1.2
  have hOld : ∀ e, (s.turn e0 K p m').L e = true → s.U e = true → s.L e = true ∧ (upd g.lam e0 LM) e = g.lam e := by
    intro e he hu
    exact ⟨(((hL e).1 he).resolve_left (hne e hu)).1, upd_ne _ _ (hne e hu)⟩
  have hNew : ∀ e, (s.turn e0 K p m').L e = true → s.U e = false → ∀ b ∈ (upd g.lam e0 LM) e, w.heap.size ≤ b ∨ ∃ e', s.L e' = true ∧ (s.turn e0 K p m').L e' = false ∧ b ∈ g.lam e' := by
    intro e he hu b hbe
    have := hnew e he hu
    subst this
    simp only [upd_same] at hbe
    rcases (hLM b hbe).1 with h1 | ⟨e', he', hL', hb'⟩
    · exact .inl h1
    · exact .inr ⟨e', hL', hdead e' he' hL', hb'⟩
  have hUs : ∀ e, s.U e = true → (s.turn e0 K p m').U e = true := by
    intro e he; rw [hU]; by_cases h' : e = e0
    · rw [h', upd_same]
    · rw [upd_ne _ _ h']; exact he
  have hlive : ∀ e, (s.turn e0 K p m').L e = true → s.U e = false → (∀ b ∈ (upd g.lam e0 LM) e, F.mine b ∧ open? w1 b) ∧ (s.turn e0 K p m').U e = true := by
    intro e he hu
    have := hnew e he hu
    subst this
    simp only [upd_same]
    refine ⟨fun b hbe => ⟨?_, (hLM b hbe).2⟩, by rw [hU, upd_same]⟩
    rcases (hLM b hbe).1 with h1 | ⟨e', _, hL', hb'⟩
    · exact .inl (Nat.le_trans h.kept.size h1)
    · exact (h.live e' hL' b hb').1
  cases p with
  | tmp t =>
    have hmv : Mv F s (s.turn e0 K (.tmp t) m') σ (σ.setCell (.tmp t) c') a (a.put none undef) w w1 g { g with lam := upd g.lam e0 LM } (· = t) (fun _ => False) (fun _ => False) := by
      refine ⟨hw, hos, htape, hout, rfl, hOld, hNew, fun b hbl hd _ => hheap b hbl fun e he hLe => hd e hLe (hdead e he hLe), fun k hk _ => ⟨hk, rfl⟩, fun k _ hN => hN.elim, fun k hk => hk.elim, ?_, fun k _ _ => ⟨rfl, rfl⟩, hUs⟩
      intro k hk
      exact ⟨upd_ne _ _ hk, upd_ne _ _ hk, rfl⟩
    refine h.mv hmv h.size h.defers hlive ?_ ?_ ?_ ?_ ?_ ?_ ?_ (fun i k _ hk => (hk.elim id id).elim) (fun k hk => hk.elim)
    · intro e e' he he' hu hu' hee
      exact absurd ((hnew e he hu).trans (hnew e' he' hu').symm) hee
    · intro k hk
      subst hk
      have e1 : (s.turn e0 K (.tmp k) m').t k = .c m' := upd_same _ _ _
      have e2 : (σ.setCell (.tmp k) c').t k = .c c' := upd_same _ _ _
      simp only [Opt.placeV, Option.some.injEq, List.cons.injEq] at hpl
      rw [e1, e2]
      refine ⟨?_, fun e he => by rw [hU]; exact hm' e he⟩
      have : (a.put none undef).tmps.getD k undef = u := hpl.1
      rw [this]
      exact TOK.cell (hC _ _ hmv)
    · intro k ms hk; exact (hk.elim id id).elim
    · intro k hk; exact hk.elim
    · intro k k' hk; exact hk.elim
    · intro k q gd' hk
      obtain ⟨h1, h2, h3, h4⟩ := cutT_p s t k q gd' hk
      exact .inl ⟨h4, h1, fun t' ht he => h2 (he ▸ ht), fun t' ht he => h3 (he ▸ ht), fun b _ => ⟨id, id⟩, fun b o _ => ⟨id, id⟩⟩
    · intro k p q hk
      obtain ⟨h1, h2, h3, h4⟩ := cutT_a s t k p q hk
      exact .inl ⟨h4, h1, fun t' ht he => h2 (he ▸ ht), fun t' ht he => h3 (he ▸ ht), fun b _ => ⟨id, id⟩⟩
  | box b j =>
    simp only [modeAt] at hm
    split at hm
    · rename_i ms hms
      have hturn : s.turn e0 K (.box b j) m' = { (({ s with L := upd s.L e0 true, U := upd s.U e0 true } : SS).kill K).cutB b with b := upd s.b b (some (layM ms j [m'])) } := by
        have : (({ s with L := upd s.L e0 true, U := upd s.U e0 true } : SS).kill K).b b = some ms := hms
        simp only [SS.turn, SS.setMode, this]
        rfl
      have hsb : (s.turn e0 K (.box b j) m').b = upd s.b b (some (layM ms j [m'])) := by rw [hturn]
      have hst : (s.turn e0 K (.box b j) m').t = s.t := by rw [hturn]; rfl
      have hmv : Mv F s (s.turn e0 K (.box b j) m') σ (σ.setCell (.box b j) c') a (a.put none undef) w w1 g { g with lam := upd g.lam e0 LM } (fun _ => False) (· = b) (fun _ => False) := by
        refine ⟨hw, hos, htape, hout, rfl, hOld, hNew, fun b hbl hd _ => hheap b hbl fun e he hLe => hd e hLe (hdead e he hLe), ?_, fun k _ hN => hN.elim, ?_, ?_, ?_, hUs⟩
        · intro k hk _
          refine ⟨?_, rfl⟩
          rw [hsb] at hk
          by_cases e : k = b
          · subst e; rw [hms]; rfl
          · rw [upd_ne _ _ e] at hk; exact hk
        · intro k hk; subst hk; right; rw [hsb, upd_same]; rfl
        · intro k _; exact ⟨by rw [hst], rfl, rfl⟩
        · intro k hk _; exact ⟨by rw [hsb, upd_ne _ _ hk], upd_ne _ _ hk⟩
      refine h.mv hmv h.size h.defers hlive ?_ ?_ ?_ ?_ ?_ ?_ ?_ (fun i k hi hk _ => by
        have hk : k = b := hk.elim id (fun h => h.elim)
        subst hk
        obtain ⟨ty', hh'⟩ := h.ro i k hi (by rw [hms]; rfl)
        refine ⟨ty', ?_⟩
        show w1.heap[g.bet k]? = _
        rw [← hh']
        exact hheap _ (open_lt ⟨_, _, hh'⟩) fun e _ hLe => h.boxLive k (by rw [hms]; rfl) e hLe) (fun k hk => hk.elim)
      · intro e e' he he' hu hu' hee
        exact absurd ((hnew e he hu).trans (hnew e' he' hu').symm) hee
      · intro k hk; exact hk.elim
      · intro k ms1 hk hms1
        have hk : k = b := hk.elim id (fun h => h.elim)
        subst hk
        rw [hsb, upd_same] at hms1
        cases hms1
        obtain ⟨hmine, cells, ty, hhp, hCells⟩ := h.boxes k ms hms
        refine ⟨fun hN => hN.elim, ⟨cells, ty, ?_, ?_⟩, ?_⟩
        · show w1.heap[g.bet k]? = _
          rw [← hhp]
          have hlt : g.bet k < w.heap.size := open_lt ⟨_, _, hhp⟩
          refine hheap _ hlt fun e _ hLe => h.boxLive k (by rw [hms]; rfl) e hLe
        · have c1 := hCells.mv hmv (h.usedB k ms hms)
          have c2 := CellsOK.one (hC _ _ hmv)
          have hjl : j < ms.length := (List.getElem?_eq_some_iff.1 hm).1
          have c3 := c1.lay c2 j (by simp; omega)
          simp only [Opt.placeV, rowOf_box hhp, Option.map_some, Option.some.injEq] at hpl
          have hjv : j < cells.toList.length := by rw [hCells.lenV]; exact hjl
          have e1 : cells.toList.take j ++ [u] ++ cells.toList.drop (j + [u].length) = cells.toList := by
            rw [List.drop_eq_getElem_cons hjv] at hpl
            simp only [List.cons.injEq] at hpl
            rw [← hpl.1, List.append_assoc, List.singleton_append, List.length_singleton, ← List.drop_eq_getElem_cons hjv, List.take_append_drop]
          have hjc : j < (σ.b k).length := by rw [hCells.lenC]; exact hjl
          have e2 : splice (σ.b k) j [c'] = (σ.b k).set j c' := by
            unfold splice
            rw [set_eq_split _ _ _ hjc, List.append_assoc, List.singleton_append, List.length_singleton]
          have e3 : (σ.setCell (.box k j) c').b k = (σ.b k).set j c' := upd_same _ _ _
          rw [e1, e2] at c3
          rw [e3]
          exact c3
        · intro q hq e he
          rw [hU]
          rcases layM_deps q hq e he with ⟨q', hq', hqe⟩ | ⟨q', hq', hqe⟩
          · have := h.usedB k ms hms q' hq' e hqe
            by_cases h' : e = e0
            · rw [h', upd_same]
            · rw [upd_ne _ _ h']; exact this
          · simp only [List.mem_singleton] at hq'
            subst hq'
            exact hm' e hqe
      · intro k hk; exact hk.elim
      · intro k k' hk; exact hk.elim
      · intro k q gd' hk
        rw [hturn] at hk
        obtain ⟨h5, h6⟩ := cutB_p (({ s with L := upd s.L e0 true, U := upd s.U e0 true } : SS).kill K) b k q gd' hk
        exact .inl ⟨h6, id, fun _ _ => id, fun _ _ => id, fun b' hb' => ⟨fun he => h5 (he ▸ hb'), id⟩, fun b' o' _ => ⟨id, fun hbs => by
          rw [hsb]
          by_cases e : b' = b
          · subst e; simp [upd_same]
          · simp only [upd_ne _ _ e]; exact hbs⟩⟩
      · intro k p q hk
        rw [hturn] at hk
        obtain ⟨h5, h6⟩ := cutB_a (({ s with L := upd s.L e0 true, U := upd s.U e0 true } : SS).kill K) b k p q hk
        exact .inl ⟨h6, id, fun _ _ => id, fun _ _ => id, fun b' hb' => ⟨fun he => h5 (he ▸ hb'), id⟩⟩
    · cases hm

theorem CellsOK.tail {x : Cx} {v : Value} {vs : List Value} {c : C} {cs : List C} {m : CM} {ms : List CM} (h : CellsOK x (v :: vs) (c :: cs) (m :: ms)) : CellsOK x vs cs ms :=
  ⟨by have := h.lenV; simpa using this, by have := h.lenC; simpa using this, fun j v' c' m' hv hc hm => h.each (j + 1) v' c' m' (by simpa using hv) (by simpa using hc) (by simpa using hm),
   fun i j v1 v2 c1 c2 m1 m2 hij h1 h2 h3 h4 h5 h6 => h.apart (i + 1) (j + 1) v1 v2 c1 c2 m1 m2 (by omega) (by simpa using h1) (by simpa using h2) (by simpa using h3) (by simpa using h4) (by simpa using h5) (by simpa using h6)⟩

theorem alives_mem {L : Nat → Bool} {ms : List CM} (h : alives L ms = true) : ∀ m ∈ ms, alive L m = true := by
  simpa only [alives, List.all_eq_true] using h

theorem mem_fps {w : World} {b : Nat} : ∀ {vs : List Value} {cs : List C}, b ∈ fps w vs cs → ∃ (j : Nat) (v : Value) (c : C), vs[j]? = some v ∧ cs[j]? = some c ∧ b ∈ fp w v c
  | [], _, h => by simp [fps] at h
  | _ :: _, [], h => by simp [fps] at h
  | v :: vs, c :: cs, h => by
    simp only [fps, List.mem_append] at h
    rcases h with h | h
    · exact ⟨0, v, c, rfl, rfl, h⟩
    · obtain ⟨j, v', c', h1, h2, h3⟩ := mem_fps h
      exact ⟨j + 1, v', c', by simpa using h1, by simpa using h2, h3⟩

theorem CellsOK.reps {x : Cx} {vs : List Value} {cs : List C} {ms : List CM} (h : CellsOK x vs cs ms) (hal : alives x.L ms = true) : Reps x.w vs cs :=
  Reps.of (h.lenV.trans h.lenC.symm) fun j v c hv hc => by
    have hj : j < ms.length := by rw [← h.lenV]; exact (List.getElem?_eq_some_iff.1 hv).1
    exact ((h.each j v c _ hv hc (List.getElem?_eq_getElem hj)).2 (alives_mem hal _ (List.getElem_mem hj))).1

/-- What is known of the blocks of cells side by side. -/
theorem CellsOK.fps_ok {x : Cx} {vs : List Value} {cs : List C} {ms : List CM} (h : CellsOK x vs cs ms) (hal : alives x.L ms = true) : ∀ b ∈ fps x.w vs cs,
    (∀ k, x.bx k = true → b ≠ x.g.bet k) ∧ (∀ e, x.L e = true → b ∈ x.g.lam e → e ∈ ms.flatMap (·.deps)) ∧ x.g.rch b := by
  intro b hb
  obtain ⟨j, v, c, hv, hc, hbf⟩ := mem_fps hb
  have hj : j < ms.length := by rw [← h.lenV]; exact (List.getElem?_eq_some_iff.1 hv).1
  obtain ⟨_, f1, _, _⟩ := (h.each j v c _ hv hc (List.getElem?_eq_getElem hj)).2 (alives_mem hal _ (List.getElem_mem hj))
  obtain ⟨g1, g2, g3⟩ := f1 b hbf
  exact ⟨g1, fun e he hbe => List.mem_flatMap.2 ⟨_, List.getElem_mem hj, g2 e he hbe⟩, g3⟩

theorem CellsOK.fps_own {x : Cx} : ∀ {vs : List Value} {cs : List C} {ms : List CM}, CellsOK x vs cs ms → alives x.L ms = true → (∀ m ∈ ms, 2 ≤ m.own) → (fps x.w vs cs).Nodup ∧ ∀ b ∈ fps x.w vs cs, ∃ e ∈ ms.flatMap (·.deps), b ∈ x.g.lam e
  | [], _, _, _, _, _ => by simp [fps]
  | _ :: _, [], _, _, _, _ => by simp [fps]
  | v :: vs, c :: cs, [], h, _, _ => by have := h.lenV; simp at this
  | v :: vs, c :: cs, m :: ms, h, hal, ho => by
    have hal' : alives x.L ms = true := by
      simp only [alives, List.all_cons, Bool.and_eq_true] at hal ⊢; exact hal.2
    have halm := alives_mem hal m (by simp)
    obtain ⟨h1, h2⟩ := h.tail.fps_own hal' fun q hq => ho q (by simp [hq])
    obtain ⟨_, _, f2, _⟩ := (h.each 0 v c m rfl rfl rfl).2 halm
    obtain ⟨n1, n2⟩ := f2 (ho m (by simp))
    simp only [fps]
    refine ⟨List.nodup_append.2 ⟨n1, h1, fun b hb b' hb' e => ?_⟩, fun b hb => ?_⟩
    · subst e
      obtain ⟨j, v', c', hv, hc, hbf⟩ := mem_fps hb'
      have hj : j < ms.length := by have := h.tail.lenV; rw [← this]; exact (List.getElem?_eq_some_iff.1 hv).1
      exact h.apart 0 (j + 1) v v' c c' m ms[j] (by omega) rfl rfl rfl (by simpa using hv) (by simpa using hc) (by simp [hj]) (ho m (by simp)) (ho _ (by simp)) halm (alives_mem hal' _ (List.getElem_mem hj)) b hb hbf
    · rcases List.mem_append.1 hb with hb | hb
      · obtain ⟨e, he, hbe⟩ := n2 b hb
        exact ⟨e, by simp [he], hbe⟩
      · obtain ⟨e, he, hbe⟩ := h2 b hb
        exact ⟨e, by simp only [List.flatMap_cons, List.mem_append]; exact .inr he, hbe⟩

theorem set_get : ∀ {path : Path} {c c' : C} {cs : List C}, c.set cs path = some c' → ∃ old, c.get cs.length path = some old
  | [], c, c', cs, h => by cases c <;> simp [C.set] at h
  | (i, k) :: rest, .int _ _, c', cs, h => by cases rest <;> simp [C.set] at h
  | (i, k) :: rest, .bool _, c', cs, h => by cases rest <;> simp [C.set] at h
  | (i, k) :: rest, .str _, c', cs, h => by cases rest <;> simp [C.set] at h
  | [(i, k)], .sl s rows, c', cs, h => by
    rw [C.set_one] at h
    rw [C.get_one]
    split at h
    · rename_i row hr
      split at h
      · rename_i hle; simp [hle]
      · cases h
    · cases h
  | (i, k) :: p :: rest, .sl s rows, c', cs, h => by
    rw [C.set_more] at h
    rw [C.get_more]
    split at h
    · rename_i row hr
      split at h
      · rename_i x hx
        split at h
        · rename_i y hy
          exact set_get hy
        · cases h
      · cases h
    · cases h

theorem locate_head {w : World} {ad : Addr} {ln cp i k b off : Nat} {c : C} (h : locate w (.slice (some ad) ln cp) c [(i, k)] = some (b, off)) : b = ad.block := by
  unfold locate at h
  split at h
  · rename_i ad' ln' cp' s' rows' i' k' rest' e5 e6
    cases e5
    simp only [List.cons.injEq, Prod.mk.injEq] at e6
    obtain ⟨⟨rfl, rfl⟩, rfl⟩ := e6
    split at h
    · cases h
    · simp only [Option.some.injEq, Prod.mk.injEq] at h; exact h.1.symm
  · cases h

theorem locate_slice {w : World} {u : Value} {c : C} {path : Path} {r : Nat × Nat} (h : locate w u c path = some r) : ∃ ad ln cp s rows, u = .slice (some ad) ln cp ∧ c = .sl s rows := by
  unfold locate at h
  split at h
  · exact ⟨_, _, _, _, _, rfl, rfl⟩
  · cases h
end
end Go.Opt
/- Each operation, by itself: a store into an element. -/
set_option linter.unusedVariables false
namespace Go.Opt
open Go.RowKit

section
variable {P : Program} {F : Frm} {s : SS} {σ : S} {a : Act} {w : World} {g : Gh} {Φ : Cl'} {G : Nat → Option Sg} {ro : List Nat} {gd : Option (Nat × Bool)} {σ1 : S} {s1 : SS}

theorem stE_core (h : Inv F s σ a w g) {p : Place} {m m' : CM} {c c' : C} {u : Value} {us : List Value} (hm : modeAt s p = some m) (hc : σ.cellAt p = some c) (hpl : Opt.placeV w g a p = some (u :: us)) (hal : alive s.L m = true)
    {vs : List Value} {cs : List C} {ms : List CM} (hV : CellsOK (s.cx w g) vs cs ms) (hals : alives s.L ms = true) (hmsU : ∀ q ∈ ms, ∀ e ∈ q.deps, s.U e = true) (hov : overlaps (ms.flatMap (·.deps)) m.deps = false)
    {path : Path} (hset : c.set cs path = some c') {b off : Nat} (hloc : locate w u c path = some (b, off)) {cur : Array Value} {ty : TypeId} (hb : w.heap[b]? = some (.cells cur ty (0, 0))) (hfit : off + cs.length ≤ cur.size)
    (hcnt : (fp w u c).count b = 1)
    {e0 : Nat} (he0 : s.U e0 = false) {K LM : List Nat} (hK : ∀ e ∈ K, e ∈ m.deps) (hbK : ∃ e ∈ K, b ∈ g.lam e)
    (hd0 : e0 ∈ m'.deps) (hdm : ∀ e ∈ m.deps, e ∈ K ∨ e ∈ m'.deps) (hds : ∀ e ∈ ms.flatMap (·.deps), e ∈ m'.deps) (hdu : ∀ e ∈ m'.deps, e = e0 ∨ e ∈ m.deps ∨ e ∈ ms.flatMap (·.deps))
    (hLM : ∀ x ∈ LM, x ∈ fp w u c ∧ ∃ e ∈ K, x ∈ g.lam e)
    (h2 : 2 ≤ m'.own → m'.own = 2 ∧ 2 ≤ m.own ∧ (∀ q ∈ ms, 2 ≤ q.own) ∧ LM = fp w u c)
    (h3 : m'.own = 1 → (∃ l, m'.deps = e0 :: l) ∧ b ∈ LM ∧ ∃ r, fp w u c = b :: r) :
    Inv F (s.turn e0 K p m') (σ.setCell p c') (a.put none undef) (w.setRow b (cur.toList.take off ++ vs ++ cur.toList.drop (off + vs.length)).toArray) { g with lam := upd g.lam e0 LM } := by
  have hmU := h.usedAt hm
  have hKU : ∀ e ∈ K, s.U e = true := fun e he => hmU e (hK e he)
  have hKL : ∀ e ∈ K, s.L e = true := fun e he => by
    simp only [alive, List.all_eq_true] at hal
    exact hal e (hK e he)
  have he0K : e0 ∉ K := fun he => by have := hKU e0 he; rw [he0] at this; cases this
  obtain ⟨u', us', hpl', hcell⟩ := h.placeV hm hc
  rw [hpl] at hpl'
  cases hpl'
  obtain ⟨hR, f1, f2, f3⟩ := hcell.2 hal
  change Rep w u c at hR
  have hreps := hV.reps hals
  change Reps w vs cs at hreps
  have hvl : vs.length = cs.length := hV.lenV.trans hV.lenC.symm
  have hfps := hV.fps_ok hals
  change ∀ x ∈ fps w vs cs, _ at hfps
  have hapart : ∀ x, x ∈ fps w vs cs → ∀ e ∈ m.deps, s.L e = true → x ∉ g.lam e := by
    intro x hx e he hLe hxe
    exact overlaps_false hov e ((hfps x hx).2.1 e hLe hxe) he
  have hnb : b ∉ fps w vs cs := by
    intro hx
    obtain ⟨e, he, hbe⟩ := hbK
    exact hapart b hx e (hK e he) (hKL e he) hbe
  have hrow := rowOf_box hb
  have hheap1 : (w.setRow b (cur.toList.take off ++ vs ++ cur.toList.drop (off + vs.length)).toArray).heap[b]? = some (.cells (cur.toList.take off ++ vs ++ cur.toList.drop (off + vs.length)).toArray ty (0, 0)) := setRow_heap w b cur _ ty _ hb
  have hother : ∀ k, k ≠ b → (w.setRow b (cur.toList.take off ++ vs ++ cur.toList.drop (off + vs.length)).toArray).heap[k]? = w.heap[k]? := fun k hk => setRow_other w b k _ hk
  have hsp := splice_get cur.toList off vs (by simp; omega)
  obtain ⟨hR1, A, B, old, e1, e2⟩ := set_ok (w' := w.setRow b (cur.toList.take off ++ vs ++ cur.toList.drop (off + vs.length)).toArray) hrow (rowOf_box hheap1)
    (by
      have := splice_length cur.toList off vs (by simp; omega)
      simpa using this) hother
    (fun j hj => by
      have := hsp j
      rw [if_neg (by omega)] at this
      simpa using this)
    (fun j v hj => by
      have hjl : j < vs.length := (List.getElem?_eq_some_iff.1 hj).1
      have := hsp (off + j)
      rw [if_pos (by omega), show off + j - off = j by omega, hj] at this
      simpa using this) hreps hnb path u c c' hR hset hloc hcnt
  refine h.setPlace hm hc hpl he0 he0K (by simp [World.setRow]) rfl rfl rfl (fun x hx hk => ?_) (fun x hx => ?_) (fun T B hmv => ?_) (fun e he => ?_)
  · refine hother x fun hxb => ?_
    obtain ⟨e, he, hbe⟩ := hbK
    exact hk e he (hKL e he) (hxb ▸ hbe)
  · obtain ⟨hxf, e, he, hxe⟩ := hLM x hx
    refine ⟨.inr ⟨e, he, hKL e he, hxe⟩, ?_⟩
    by_cases hxb : x = b
    · subst hxb; exact ⟨_, _, hheap1⟩
    · obtain ⟨_, cc, tt, hct⟩ := h.live e (hKL e he) x hxe
      exact ⟨cc, tt, by rw [hother x hxb]; exact hct⟩
  · have hmem : ∀ x ∈ fp (w.setRow b (cur.toList.take off ++ vs ++ cur.toList.drop (off + vs.length)).toArray) u c', x ∈ fp w u c ∨ x ∈ fps w vs cs := by
      intro x hx
      rw [e2] at hx
      rw [e1]
      simp only [List.mem_append] at hx ⊢
      rcases hx with (hx | hx) | hx
      · exact .inl (.inl (.inl hx))
      · exact .inr hx
      · exact .inl (.inr hx)
    have hlamne : ∀ e, s.U e = true → (upd g.lam e0 LM) e = g.lam e := fun e he => upd_ne _ _ (fun h => by rw [h, he0] at he; cases he)
    have hLt := turn_L s e0 K p m' he0K
    refine ⟨hR1.hd, fun _ => ⟨hR1, fun x hx => ⟨fun k hk => ?_, fun e he hxe => ?_, ?_⟩, fun ho => ?_, fun ho x r hxr => ?_⟩⟩
    · have hk' : (s.b k).isSome = true := by
        by_cases hB : B k
        · rcases hmv.bSub k hB with h | h
          · exact h.elim
          · exact (hmv.boxOld k h id).1
        · exact (hmv.boxOld k hk id).1
      change x ≠ g.bet k
      rcases hmem x hx with hx | hx
      · exact (f1 x hx).1 k hk'
      · exact (hfps x hx).1 k hk'
    · change (s.turn e0 K p m').L e = true at he
      change x ∈ (upd g.lam e0 LM) e at hxe
      rcases (hLt e).1 he with he | ⟨he, heK⟩
      · rw [he]; exact hd0
      · rw [hlamne e (h.used e he)] at hxe
        rcases hmem x hx with hx | hx
        · exact (hdm e ((f1 x hx).2.1 e he hxe)).resolve_left heK
        · exact hds e ((hfps x hx).2.1 e he hxe)
    · rcases hmem x hx with hx | hx
      · exact (f1 x hx).2.2
      · exact (hfps x hx).2.2
    · obtain ⟨_, ho2, ho3, ho4⟩ := h2 ho
      obtain ⟨n1, n2⟩ := f2 ho2
      obtain ⟨n3, n4⟩ := hV.fps_own hals ho3
      change (fps w vs cs).Nodup at n3
      change (fp _ u c').Nodup ∧ ∀ b ∈ fp _ u c', _
      have hold : ∀ x ∈ fp w u c, ∃ e ∈ m.deps, x ∈ g.lam e := n2
      refine ⟨?_, fun x hx => ?_⟩
      · change (fp (w.setRow b (cur.toList.take off ++ vs ++ cur.toList.drop (off + vs.length)).toArray) u c').Nodup
        rw [e2]
        change (fp w u c).Nodup at n1
        rw [e1] at n1 hold
        rw [List.nodup_append, List.nodup_append] at n1 ⊢
        obtain ⟨⟨p1, p2, p3⟩, p4, p5⟩ := n1
        refine ⟨⟨p1, n3, fun x hx y hy hxy => ?_⟩, p4, fun x hx y hy => ?_⟩
        · subst hxy
          obtain ⟨e, he, hxe⟩ := hold x (by simp [hx])
          have hLe : s.L e = true := by simp only [alive, List.all_eq_true] at hal; exact hal e he
          exact hapart x hy e he hLe hxe
        · rcases List.mem_append.1 hx with hx | hx
          · exact p5 x (by simp [hx]) y hy
          · intro hxy
            subst hxy
            obtain ⟨e, he, hxe⟩ := hold x (by simp [hy])
            have hLe : s.L e = true := by simp only [alive, List.all_eq_true] at hal; exact hal e he
            exact hapart x hx e he hLe hxe
      · rcases hmem x hx with hx | hx
        · refine ⟨e0, hd0, ?_⟩
          change x ∈ (upd g.lam e0 LM) e0
          rw [upd_same, ho4]; exact hx
        · obtain ⟨e, he, hxe⟩ := n4 x hx
          refine ⟨e, hds e he, ?_⟩
          change x ∈ (upd g.lam e0 LM) e
          obtain ⟨q, hq, heq⟩ := List.mem_flatMap.1 he
          rw [hlamne e (hmsU q hq e heq)]; exact hxe
    · have ho1 : m'.own = 1 := by
        rcases ho with h | h
        · exact h
        · have := (h2 (by omega)).1; omega
      obtain ⟨⟨l, hl⟩, hbL, r0, hr0⟩ := h3 ho1
      obtain ⟨ad, ln, cp, sz, rows, hu, hcc⟩ := locate_slice hloc
      have hhead : ad.block = b := by
        rw [hu, hcc] at hr0
        by_cases h0 : cp = 0
        · simp [fp, h0] at hr0
        · simp only [fp, h0, if_false, List.cons.injEq] at hr0
          exact hr0.1
      have hxb : x = b := by
        change fp _ u c' = x :: r at hxr
        rw [hu] at hxr
        cases c' with
        | sl s' rows' =>
          by_cases h0 : cp = 0
          · simp [fp, h0] at hxr
          · simp only [fp, h0, if_false, List.cons.injEq] at hxr; rw [← hxr.1, hhead]
        | _ => simp [fp] at hxr
      subst hxb
      have hcount : (fp (w.setRow x (cur.toList.take off ++ vs ++ cur.toList.drop (off + vs.length)).toArray) u c').count x ≤ 1 := by
        rw [e2]
        rw [e1] at hcnt
        simp only [List.count_append] at hcnt ⊢
        rw [List.count_eq_zero.2 hnb]
        omega
      change fp (w.setRow x (cur.toList.take off ++ vs ++ cur.toList.drop (off + vs.length)).toArray) u c' = x :: r at hxr
      rw [hxr, List.count_cons_self] at hcount
      refine ⟨List.count_eq_zero.1 (by omega), e0, l, hl, ?_⟩
      change x ∈ (upd g.lam e0 LM) e0
      rw [upd_same]; exact hbL
  · rcases hdu e he with rfl | he | he
    · exact upd_same _ _ _
    · by_cases h' : e = e0
      · rw [h', upd_same]
      · rw [upd_ne _ _ h']; exact hmU e he
    · obtain ⟨q, hq, heq⟩ := List.mem_flatMap.1 he
      by_cases h' : e = e0
      · rw [h', upd_same]
      · rw [upd_ne _ _ h']; exact hmsU q hq e heq

theorem fin_stE (h : Inv F s σ a w g) {o : Oper} (hdn : o.dst = none) (hg : guardHolds σ gd) {t : TypeId} {n : Nat} {p : Place} {q : PathX} {x : Operand} {xx : X} {ks : List K} (ho : o.op = .store t (.tmp n) x) (hx : normX P t x = some xx) (hk : kinds P t = some ks)
    (h1 : step Φ o.dst (.stE ks.length n p q xx) σ = some σ1) (h2 : sstep G ro gd o.dst (.stE ks.length n p q xx) s = some s1) : Fin P F o s1 σ1 a w := by
  simp only [step] at h1
  simp only [sstep] at h2
  split at h2
  · rename_i hh
    split at h2
    · rename_i m ms hm hxm
      split at h2
      · rename_i hc2
        obtain ⟨hal, hmsl, hals, hov⟩ := hc2
        simp only [Bool.not_eq_true'] at hov
        split at h2
        · rename_i s0 hfr
          obtain ⟨hU0, rfl⟩ := fresh_spec hfr
          split at h1
          · rename_i cs path hcs hpath
            split at h1
            · rename_i hc1
              obtain ⟨hcl, hne⟩ := hc1
              obtain ⟨c, c', hc, hset, rfl⟩ : ∃ c c', σ.cellAt p = some c ∧ c.set cs path = some c' ∧ σ1 = σ.setCell p c' := by
                unfold S.lay at h1
                split at h1
                · exact absurd rfl hne
                · split at h1
                  · rename_i c hc
                    split at h1
                    · rename_i c' hset
                      cases h1
                      exact ⟨c, c', hc, hset, rfl⟩
                    · cases h1
                  · cases h1
              obtain ⟨u, us, hpl, hcell⟩ := h.placeV hm hc
              obtain ⟨hT, hXU⟩ := h.x hx
              have hV := hT.cellsOf hxm hcs
              have hmsU : ∀ r ∈ ms, ∀ e ∈ r.deps, s.U e = true := fun r hr e he => hXU e (M.cells_deps hxm r hr e he)
              have hP := h.holds hh.1 hg
              simp only [PtrOK] at hP
              obtain ⟨b, off, hv, hP⟩ := hP
              obtain ⟨path', hp1, hloc⟩ := hP m c u us hm hal hc hpl
              rw [hpath] at hp1
              cases hp1
              obtain ⟨hR, f1, f2, f3⟩ := hcell.2 hal
              change Rep w u c at hR
              obtain ⟨old, hget⟩ := set_get hset
              obtain ⟨b', off', g1, _, hbf, _, ⟨cells, g5, g6⟩, _⟩ := get_ok path u c old hR hget
              rw [hloc] at g1
              cases g1
              have hcl2 : cs.length = ms.length := hV.lenC
              have hmL : ∀ e ∈ m.deps, s.L e = true := by
                simp only [alive, List.all_eq_true] at hal; exact hal
              have hlen1 : q.length = 1 → ∃ r, fp w u c = b :: r := by
                intro hq
                obtain ⟨ad, ln, cp, sz, rows, hu, hcc⟩ := locate_slice hloc
                match q, hq with
                | [(y, j)], _ =>
                  simp only [evPath] at hpath
                  split at hpath
                  · rename_i i l ei el
                    cases el
                    split at hpath
                    · cases hpath
                      rw [hu] at hloc
                      have := locate_head hloc
                      have hz : ¬ cp = 0 := by
                        intro h0
                        rw [hu, hcc] at hbf
                        simp [fp, h0] at hbf
                      rw [hu, hcc]
                      simp only [fp, hz, if_false, this]
                      exact ⟨_, rfl⟩
                    · cases hpath
                  · cases hpath
              -- the block is one of a living class
              have hlast : ∀ {K LM : List Nat} {m' : CM}, (∀ e ∈ K, e ∈ m.deps) → (∃ e ∈ K, b ∈ g.lam e) → (fp w u c).count b = 1 →
                  (atom n 1 ∈ m'.deps) → (∀ e ∈ m.deps, e ∈ K ∨ e ∈ m'.deps) → (∀ e ∈ ms.flatMap (·.deps), e ∈ m'.deps) → (∀ e ∈ m'.deps, e = atom n 1 ∨ e ∈ m.deps ∨ e ∈ ms.flatMap (·.deps)) →
                  (∀ x ∈ LM, x ∈ fp w u c ∧ ∃ e ∈ K, x ∈ g.lam e) → (2 ≤ m'.own → m'.own = 2 ∧ 2 ≤ m.own ∧ (∀ q ∈ ms, 2 ≤ q.own) ∧ LM = fp w u c) → (m'.own = 1 → (∃ l, m'.deps = atom n 1 :: l) ∧ b ∈ LM ∧ ∃ r, fp w u c = b :: r) →
                  Fin P F o (s.turn (atom n 1) K p m') (σ.setCell p c') a w := by
                intro K LM m' k1 k2 k3 k4 k5 k6 k7 k8 k9 k10
                obtain ⟨e, he, hbe⟩ := k2
                obtain ⟨_, cur, ty, hbh⟩ := h.live e (hmL e (k1 e he)) b hbe
                have hcur : cells = cur := by
                  have := rowOf_box hbh
                  rw [g5] at this; cases this; rfl
                subst hcur
                have hfin := stE_core h hm hc hpl hal hV hals hmsU hov hset hloc hbh g6 k3 hU0 k1 ⟨e, he, hbe⟩ k4 k5 k6 k7 k8 k9 k10
                have hlx : (a.eval x).cells.toList.length = ks.length := hV.lenV.trans hmsl
                have hrun := run_storeK (w := w) (b := b) (off := off) (v := a.eval x) hk hbh hlx (by omega) hV.one_cell
                refine ⟨.skip, undef, _, _, ?_, .inr ⟨rfl, rfl⟩, by rw [hdn]; exact hfin⟩
                have hev : a.eval (.tmp n) = _ := hv
                simp only [execOp, ho, hev, Sem.run_bind, hrun, Result.andThen_ok, Sem.run_pure]
              have own2 : 2 ≤ m.own → (∃ e ∈ m.deps, b ∈ g.lam e) ∧ (fp w u c).count b = 1 := by
                intro h2m
                obtain ⟨n1, n2⟩ := f2 h2m
                exact ⟨n2 b hbf, (n1.count).trans (if_pos hbf)⟩
              split at h2
              · rename_i hw
                cases h2
                obtain ⟨o1, o2⟩ := own2 hw.1
                have hwa : ∀ q ∈ ms, 2 ≤ q.own := by simpa using hw.2
                refine hlast (K := m.deps) (LM := fp w u c) (m' := ⟨atom n 1 :: ms.flatMap (·.deps), 2⟩) (fun e he => he) o1 o2 (by simp) (fun e he => .inl he) (fun e he => by simp only [List.mem_cons]; exact .inr he) (fun e he => ?_) (fun y hy => ⟨hy, (f2 hw.1).2 y hy⟩) (fun _ => ⟨rfl, hw.1, hwa, rfl⟩) (fun h1 => by simp at h1)
                simp only [List.mem_cons] at he
                rcases he with he | he
                · exact .inl he
                · exact .inr (.inr he)
              · split at h2
                · rename_i hw
                  cases h2
                  obtain ⟨o1, o2⟩ := own2 hw.1
                  refine hlast (K := m.deps) (LM := [b]) (m' := ⟨atom n 1 :: ms.flatMap (·.deps), 1⟩) (fun e he => he) o1 o2 (by simp) (fun e he => .inl he) (fun e he => by simp only [List.mem_cons]; exact .inr he) (fun e he => ?_) (fun y hy => ?_) (fun h => by simp at h) (fun _ => ⟨⟨_, rfl⟩, by simp, hlen1 hw.2⟩)
                  · simp only [List.mem_cons] at he
                    rcases he with he | he
                    · exact .inl he
                    · exact .inr (.inr he)
                  · simp only [List.mem_singleton] at hy; subst hy; exact ⟨hbf, o1⟩
                · split at h2
                  · rename_i hw
                    split at h2
                    · rename_i e r hmd
                      cases h2
                      obtain ⟨r0, hr0⟩ := hlen1 hw.2
                      obtain ⟨nb, e', l, hel, hbe⟩ := f3 (.inl hw.1) b r0 hr0
                      rw [hmd] at hel
                      cases hel
                      have hcnt : (fp w u c).count b = 1 := by rw [hr0, List.count_cons_self, List.count_eq_zero.2 nb]
                      refine hlast (K := [e]) (LM := [b]) (m' := ⟨atom n 1 :: (r ++ ms.flatMap (·.deps)), 1⟩) (fun e1 he => ?_) ⟨e, by simp, hbe⟩ hcnt (by simp) (fun e1 he => ?_) (fun e1 he => by simp only [List.mem_cons, List.mem_append]; exact .inr (.inr he)) (fun e1 he => ?_) (fun y hy => ?_) (fun h => by simp at h) (fun _ => ⟨⟨_, rfl⟩, by simp, hlen1 hw.2⟩)
                      · simp only [List.mem_singleton] at he; subst he; rw [hmd]; simp
                      · rw [hmd] at he
                        simp only [List.mem_cons] at he
                        rcases he with rfl | he
                        · exact .inl (by simp)
                        · exact .inr (by simp [he])
                      · simp only [List.mem_cons, List.mem_append] at he
                        rcases he with he | he | he
                        · exact .inl he
                        · exact .inr (.inl (by rw [hmd]; simp [he]))
                        · exact .inr (.inr he)
                      · simp only [List.mem_singleton] at hy; subst hy; exact ⟨hbf, e, by simp, hbe⟩
                    · cases h2
                  · cases h2
            · cases h1
          · cases h1
        · cases h2
      · cases h2
    · cases h2
  · cases h2
end
end Go.Opt
/- Each operation, by itself: appends. -/
set_option linter.unusedVariables false
namespace Go.Opt
open Go.RowKit

section
variable {P : Program} {F : Frm} {s : SS} {σ : S} {a : Act} {w : World} {g : Gh} {Φ : Cl'} {G : Nat → Option Sg} {ro : List Nat} {gd : Option (Nat × Bool)} {σ1 : S} {s1 : SS}

/-- What an append makes: over the row that is there; nothing; a new row. -/
inductive AppRes (w : World) (base : Option Addr) (len cap sz n : Nat) (olds news : List Value) (v' : Value) (w1 : World) : Prop where
  | room (ad : Addr) (cur : Array Value) (ty : TypeId) (hb : base = some ad) (hs : ad.spot = none) (hh : w.heap[ad.block]? = some (.cells cur ty (0, 0))) (hle : len + n ≤ cap) (h0 : 0 < cap) (hv : v' = .slice (some ad) (len + n) cap)
      (hw : w1 = w.setRow ad.block (cur.toList.take (ad.off + len * sz) ++ news ++ cur.toList.drop (ad.off + len * sz + news.length)).toArray) : AppRes w base len cap sz n olds news v' w1
  | none (hb : cap = 0) (hn : n = 0) (hv : v' = .slice base len cap) (hw : w1 = w) : AppRes w base len cap sz n olds news v' w1
  | grow (cap' : Nat) (arr : Array Value) (ty : TypeId) (zs : List Value) (hle : len + n ≤ cap') (h0 : 0 < cap') (hv : v' = .slice (some ⟨w.heap.size, 0, .none⟩) (len + n) cap') (ha : arr.toList = olds ++ news ++ zs) (hsz : arr.size = cap' * sz)
      (hw : w1 = w.drew.alloc (.cells arr ty)) : AppRes w base len cap sz n olds news v' w1

theorem setCells_row {w : World} {b off : Nat} {cur : Array Value} {ty : TypeId} (hb : w.heap[b]? = some (.cells cur ty (0, 0))) {vs : List Value} (hfit : off + vs.length ≤ cur.size) (h1 : ∀ v ∈ vs, v.oneCell' = true) (P : Program) :
    w.setCells b off vs = w.setRow b (cur.toList.take off ++ vs ++ cur.toList.drop (off + vs.length)).toArray := by
  have e1 := run_storeCells_at P b off ty vs 0 cur w hb (by simpa using hfit) h1
  have e2 := run_storeCells_cells (P := P) b off vs 0 w (fun j hj => by
    have : off + j < cur.size := by omega
    simp [World.cell?, hb, this]) (fun j hj => by simp [World.frozen?, hb]) h1
  rw [e1] at e2
  simp only [Nat.add_zero, Result.ok.injEq, true_and] at e2
  exact e2.symm

theorem run_app {t u ty E : TypeId} {ks : List K} {base : Option Addr} {cap n : Nat} {rows : List (List C)} {news : List Value} (ht : P.underlying t = some (.slice E)) (hk : kinds P E = some ks) {y : Value}
    (hsrc : Src P ks.length u y n news w) (hR : Rep w (.slice base rows.length cap) (.sl ks.length rows)) (hopen : ∀ ad, base = some ad → 0 < cap → open? w ad.block)
    (hlim : (rows.length + n) * P.bytesOf E ≤ maxBytes) (hmax : rows.length + n ≤ maxStr) :
    ∃ v' w1 olds, (Builtin.append_ #[t, u] ty #[.slice base rows.length cap, y]).run P w = .ok v' w1 ∧ AppRes w base rows.length cap ks.length n olds news v' w1 ∧
      Reps w olds rows.flatten ∧ olds.length = rows.length * ks.length ∧ (∀ ad, base = some ad → 0 < cap → fpRows w ad.block ks.length ad.off rows = fps w olds rows.flatten) ∧
      (∀ ad cells, base = some ad → 0 < cap → rowOf w ad.block = some cells → ∀ (j : Nat) (v : Value), olds[j]? = some v → cells[ad.off + j]? = some v) := by
  obtain ⟨_, i, z, hi, hs, hpos, hz, hf⟩ := kinds_info hk
  have hbytes : P.bytesOf E = i.bytes := by simp [Program.bytesOf, hi]
  rw [hbytes] at hlim
  have hsrc' := hsrc
  rw [← hs] at hsrc'
  simp only [Rep] at hR
  obtain ⟨base', cap', he, hle, hb⟩ := hR
  cases he
  have hzs : z.cells.size = ks.length := by have := (fits_get hf).1; simpa using this
  have hgrow : ∀ olds : List Value, (Builtin.firstCells i.size rows.length (.slice base rows.length cap)).run P w.drew = .ok olds.toArray w.drew → olds.length = rows.length * ks.length → cap < rows.length + n →
      ∃ v' w1, (Builtin.append_ #[t, u] ty #[.slice base rows.length cap, y]).run P w = .ok v' w1 ∧ AppRes w base rows.length cap ks.length n olds news v' w1 := by
    intro olds hold hol hg
    simp only [maxBytes] at hlim
    simp only [maxStr] at hmax
    have hr := run_append_grow_src (P := P) w t u ty E i z ht hi hz base rows.length cap olds hold y n news hsrc' hg (by omega) (growslice_fits hg hlim)
    have hge := grownCap_ge w (rows.length + n) cap E
    refine ⟨_, _, hr, .grow (grownCap w (rows.length + n) cap E) _ E (Builtin.zeroCells z.cells (grownCap w (rows.length + n) cap E - (rows.length + n))).toList hge (by omega) rfl (by simp) ?_ rfl⟩
    have hnl := hsrc.newsLen
    rw [Array.size_append, size_zeroCells, hzs]
    simp only [List.size_toArray, List.length_append, hol, hnl]
    rw [← Nat.add_mul, ← Nat.add_mul]
    congr 1; omega
  cases base with
  | none =>
    simp only at hb
    subst hb
    have hr0 : rows = [] := List.eq_nil_of_length_eq_zero (by omega)
    subst hr0
    by_cases hn : n = 0
    · subst hn
      have hn0 : news = [] := List.eq_nil_of_length_eq_zero (by have := hsrc.newsLen; simpa using this)
      subst hn0
      exact ⟨_, _, [], run_append_nothing w t u ty E i ht hi none 0 0 (by omega) y hsrc', .none rfl rfl rfl rfl, by simp [Reps], by simp, by simp, by simp⟩
    · obtain ⟨v', w1, h1, h2⟩ := hgrow [] (run_firstCells_none w.drew i.size 0 0 0) (by simp) (by simp; omega)
      exact ⟨v', w1, [], h1, h2, by simp [Reps], by simp, by simp, by simp⟩
  | some ad =>
    by_cases h0 : cap = 0
    · subst h0
      have hr0 : rows = [] := List.eq_nil_of_length_eq_zero (by omega)
      subst hr0
      by_cases hn : n = 0
      · subst hn
        have hn0 : news = [] := List.eq_nil_of_length_eq_zero (by have := hsrc.newsLen; simpa using this)
        subst hn0
        exact ⟨_, _, [], run_append_nothing w t u ty E i ht hi (some ad) 0 0 (by omega) y hsrc', .none rfl rfl rfl rfl, by simp [Reps], by simp, by simp, by simp⟩
      · have hold := run_firstCells_some (P := P) w.drew i.size 0 ad 0 0 [] (by simp) (fun j v hj => by simp at hj)
        obtain ⟨v', w1, h1, h2⟩ := hgrow [] hold (by simp) (by simp; omega)
        exact ⟨v', w1, [], h1, h2, by simp [Reps], by simp, by simp, by simp⟩
    obtain ⟨hsp, ⟨cells, hc, hcap⟩, hr⟩ := hb (by omega)
    obtain ⟨cur, ty', hh⟩ := hopen ad rfl (by omega)
    have hcc : cells = cur := by have := rowOf_box hh; rw [hc] at this; cases this; rfl
    subst hcc
    obtain ⟨bk, of, sp⟩ := ad
    simp only at hsp hr hcap hc hh
    subst hsp
    have hlc : rows.length * ks.length ≤ cap * ks.length := Nat.mul_le_mul_right _ hle
    obtain ⟨r1, r2⟩ := hr.reps hc rows of (by omega)
    have hol : ((cells.toList.drop of).take (rows.length * ks.length)).length = rows.length * ks.length := by simp; omega
    have hpos' : ∀ (ad' : Addr) (cells' : Array Value), some (⟨bk, of, none⟩ : Addr) = some ad' → rowOf w ad'.block = some cells' → ∀ (j : Nat) (v : Value), ((cells.toList.drop of).take (rows.length * ks.length))[j]? = some v → cells'[ad'.off + j]? = some v := by
      intro ad' cells' he hc' j v hj
      cases he
      rw [hc] at hc'
      cases hc'
      rw [List.getElem?_take] at hj
      split at hj
      · rw [List.getElem?_drop] at hj; simpa using hj
      · cases hj
    by_cases hroom : rows.length + n ≤ cap
    · have hnl := hsrc.newsLen
      have hfit : of + rows.length * ks.length + news.length ≤ cells.size := by
        have : (rows.length + n) * ks.length ≤ cap * ks.length := Nat.mul_le_mul_right _ hroom
        rw [Nat.add_mul] at this; omega
      have hrun := run_append_room_src (P := P) w t u ty E i ht hi bk of rows.length cap y n news hsrc' hroom (fun j hj => by
        rw [hs]
        have : of + rows.length * ks.length + j < cells.size := by omega
        simp [World.cell?, hh, this]) (fun j hj => by simp [World.frozen?, hh])
      rw [hs, setCells_row hh hfit hsrc.one P] at hrun
      exact ⟨_, _, _, hrun, .room _ cells ty' rfl rfl hh hroom (by omega) rfl rfl, r1, hol, fun ad' he _ => by cases he; exact r2, fun ad' cells' he _ => hpos' ad' cells' he⟩
    · have hold := run_firstCells_some (P := P) w.drew i.size rows.length ⟨bk, of, none⟩ rows.length cap ((cells.toList.drop of).take (rows.length * ks.length)) (by rw [hs]; exact hol) (fun j v hj => by
        rw [Addr.add_mid]
        exact rangeAt_rowOf hc of _ j v hj)
      obtain ⟨v', w1, h1, h2⟩ := hgrow _ hold hol (by omega)
      exact ⟨v', w1, _, h1, h2, r1, hol, fun ad' he _ => by cases he; exact r2, fun ad' cells' he _ => hpos' ad' cells' he⟩

/-- What an append comes to, whichever way it went. -/
theorem app_core (h : Inv F s σ a w g) {n : Nat} (hn : n < F.n) {m : CM} {xv : Value} {sz : Nat} {rows more : List (List C)} (hx : CellOK (s.cx w g) xv (.sl sz rows) m) (hmU : ∀ e ∈ m.deps, s.U e = true) (hal : alive s.L m = true)
    {olds news : List Value} (hoR : Reps w olds rows.flatten) (hnR : Reps w news more.flatten) (hrs : ∀ row ∈ rows, row.length = sz) (hms : ∀ row ∈ more, row.length = sz)
    (hRsub : ∀ b ∈ fps w olds rows.flatten, b ∈ fp w xv (.sl sz rows)) (hRnd : 2 ≤ m.own → (fps w olds rows.flatten).Nodup)
    {D : List Nat} (hDU : ∀ e ∈ D, s.U e = true) (hY : ∀ b ∈ fps w news more.flatten, (∀ k, (s.b k).isSome = true → b ≠ g.bet k) ∧ (∀ e, s.L e = true → b ∈ g.lam e → e ∈ D) ∧ g.rch b)
    {e0 : Nat} (he0 : s.U e0 = false) {K : List Nat} (hK : ∀ e ∈ K, e ∈ m.deps)
    {B off cap1 : Nat} {cells : Array Value} {ty : TypeId} {w1 : World} (hB : w1.heap[B]? = some (.cells cells ty (0, 0))) (hcap : off + cap1 * sz ≤ cells.size) (hle : rows.length + more.length ≤ cap1) (hc1 : 0 < cap1)
    (hcells : ∀ (j : Nat) (v : Value), (olds ++ news)[j]? = some v → cells[off + j]? = some v) (hoth : ∀ b, b < w.heap.size → b ≠ B → w1.heap[b]? = w.heap[b]?) (hsize : w.heap.size ≤ w1.heap.size)
    (hos : w1.os = w.os) (htape : w1.tape = w.tape) (hout : w1.output = w.output)
    (hBK : w.heap.size ≤ B ∨ B ∈ fp w xv (.sl sz rows) ∧ ∃ e ∈ K, B ∈ g.lam e) (hBR : B ∉ fps w olds rows.flatten) (hBY : B ∉ fps w news more.flatten)
    {m' : CM} (hd0 : e0 ∈ m'.deps) (hcov : (fps w olds rows.flatten = [] ∧ fps w news more.flatten = []) ∨ (∀ e ∈ m.deps, e ∈ K ∨ e ∈ m'.deps) ∧ (∀ e ∈ D, e ∈ m'.deps)) (hdu : ∀ e ∈ m'.deps, e = e0 ∨ e ∈ m.deps ∨ e ∈ D)
    (h2 : 2 ≤ m'.own → (fps w olds rows.flatten = [] ∧ fps w news more.flatten = []) ∨ (2 ≤ m.own ∧ K = m.deps ∧ (∀ e ∈ D, e ∉ m.deps) ∧ (fps w news more.flatten).Nodup ∧ ∀ b ∈ fps w news more.flatten, ∃ e ∈ D, b ∈ g.lam e))
    (h3 : m'.own = 1 ∨ m'.own = 3 → ∃ l, m'.deps = e0 :: l)
    (ht : s1.t = upd s.t n (.c m')) (hb : s1.b = s.b) (hp : s1.p = (s.cutT n).p) (ha : s1.a = (s.cutT n).a) (hU : s1.U = upd s.U e0 true) (hL : ∀ e, s1.L e = true ↔ e = e0 ∨ (s.L e = true ∧ e ∉ K)) :
    ∃ g1, Inv F s1 (σ.put (some n) (.c (.sl sz (rows ++ more)))) (a.put (some n) (.slice (some ⟨B, off, none⟩) (rows.length + more.length) cap1)) w1 g1 := by
  obtain ⟨hR, f1, f2, f3⟩ := hx.2 hal
  change Rep w xv _ at hR
  have hmL : ∀ e ∈ m.deps, s.L e = true := by simp only [alive, List.all_eq_true] at hal; exact hal
  have hlt := Rep.lt _ _ hR
  have hYlt : ∀ b ∈ fps w news more.flatten, b < w.heap.size := by
    intro b hb
    obtain ⟨j, v, c, hv, hc, hbf⟩ := mem_fps hb
    exact Rep.lt c v (hnR.get j v c hv hc) b hbf
  have hRlt : ∀ b ∈ fps w olds rows.flatten, b < w.heap.size := fun b hb => hlt b (hRsub b hb)
  obtain ⟨o1, o2⟩ := Reps.frame (w' := w1) rows.flatten olds hoR fun b hb => hoth b (hRlt b hb) fun e => hBR (e ▸ hb)
  obtain ⟨n1, n2⟩ := Reps.frame (w' := w1) more.flatten news hnR fun b hb => hoth b (hYlt b hb) fun e => hBY (e ▸ hb)
  have hall : Reps w1 (olds ++ news) (rows ++ more).flatten := by rw [List.flatten_append]; exact Reps.append o1 n1
  obtain ⟨r1, r2⟩ := RepRows.ofReps (rowOf_box hB) (rows ++ more) (olds ++ news) off (fun row hr => (List.mem_append.1 hr).elim (hrs row) (hms row)) hall hcells
  have hRep : Rep w1 (.slice (some ⟨B, off, none⟩) (rows.length + more.length) cap1) (.sl sz (rows ++ more)) := by
    simp only [Rep]
    exact ⟨some ⟨B, off, none⟩, cap1, by rw [List.length_append], by rw [List.length_append]; exact hle, fun _ => ⟨rfl, ⟨cells, rowOf_box hB, hcap⟩, r1⟩⟩
  have hfp : fp w1 (.slice (some ⟨B, off, none⟩) (rows.length + more.length) cap1) (.sl sz (rows ++ more)) = B :: (fps w olds rows.flatten ++ fps w news more.flatten) := by
    have hc0 : ¬ cap1 = 0 := by omega
    simp only [fp, hc0, if_false]
    rw [r2, List.flatten_append, fps_append _ _ _ _ _ o1.length, o2, n2]
  have hBlt : ∀ e, s.L e = true → e ∉ K → B ∉ g.lam e := by
    intro e he heK hBe
    rcases hBK with hge | ⟨_, e', he', hBe'⟩
    · have := open_lt (h.live e he B hBe).2; omega
    · exact h.apart e e' he (hmL e' (hK e' he')) (fun h => heK (h ▸ he')) B hBe hBe'
  have hne : ∀ e, s.U e = true → e ≠ e0 := fun e he h => by rw [h, he0] at he; cases he
  have hopenB : open? w1 B := ⟨_, _, hB⟩
  have hopenR : ∀ b ∈ fps w olds rows.flatten, ∀ e ∈ m.deps, b ∈ g.lam e → open? w1 b := by
    intro b hb e he hbe
    obtain ⟨_, cc, tt, hct⟩ := h.live e (hmL e he) b hbe
    exact ⟨cc, tt, by rw [hoth b (hRlt b hb) fun h => hBR (h ▸ hb)]; exact hct⟩
  let LM : List Nat := B :: (fps w olds rows.flatten).filter fun b => K.any fun e => (g.lam e).contains b
  refine ⟨{ g with lam := upd g.lam e0 LM }, h.newClass hn he0 (K := K) (LM := LM) ht hb hp ha hU hL hsize hos htape hout (fun b hbl hbK => ?_) (fun b hbm => ?_) (fun hmv => ?_) (fun e he => ?_)⟩
  · refine hoth b hbl fun hbB => ?_
    subst hbB
    rcases hBK with hge | ⟨_, e, he, hBe⟩
    · omega
    · exact hbK e he (hmL e (hK e he)) hBe
  · rcases List.mem_cons.1 hbm with hbm | hbm
    · subst hbm
      refine ⟨?_, hopenB⟩
      rcases hBK with hge | ⟨_, e, he, hBe⟩
      · exact .inl hge
      · exact .inr ⟨e, he, hmL e (hK e he), hBe⟩
    · obtain ⟨hbR, hbK⟩ := List.mem_filter.1 hbm
      simp only [List.any_eq_true, List.contains_eq_mem, decide_eq_true_eq] at hbK
      obtain ⟨e, he, hbe⟩ := hbK
      exact ⟨.inr ⟨e, he, hmL e (hK e he), hbe⟩, hopenR b hbR e (hK e he) hbe⟩
  · refine ⟨hRep.hd, fun _ => ⟨hRep, ?_⟩⟩
    change FpOK _ _ (fp w1 _ _)
    rw [hfp]
    have hcls : ∀ e, s1.L e = true → e ≠ e0 → s.L e = true ∧ e ∉ K := fun e he hee => ((hL e).1 he).resolve_left hee
    have hlam : ∀ e, e ≠ e0 → (upd g.lam e0 LM) e = g.lam e := fun e he => upd_ne _ _ he
    refine ⟨fun b hbm => ⟨fun k hk => ?_, fun e he hbe => ?_, ?_⟩, fun ho => ⟨?_, fun b hbm => ?_⟩, fun ho b r hbr => ?_⟩
    · have hk' : (s.b k).isSome = true := by
        have : (s1.b k).isSome = true := hk
        rwa [hb] at this
      change b ≠ g.bet k
      rcases List.mem_cons.1 hbm with hbm | hbm
      · subst hbm
        rcases hBK with hge | ⟨hBf, _⟩
        · obtain ⟨ms, hmsk⟩ := Option.isSome_iff_exists.1 hk'
          obtain ⟨_, cc, tt, hct, _⟩ := h.boxes k ms hmsk
          have := open_lt ⟨cc, tt, hct⟩
          omega
        · exact (f1 b hBf).1 k hk'
      · rcases List.mem_append.1 hbm with hbm | hbm
        · exact (f1 b (hRsub b hbm)).1 k hk'
        · exact (hY b hbm).1 k hk'
    · change s1.L e = true at he
      change b ∈ (upd g.lam e0 LM) e at hbe
      by_cases hee : e = e0
      · rw [hee]; exact hd0
      · rw [hlam e hee] at hbe
        obtain ⟨hLe, heK⟩ := hcls e he hee
        rcases List.mem_cons.1 hbm with hbm | hbm
        · subst hbm; exact absurd hbe (hBlt e hLe heK)
        · rcases List.mem_append.1 hbm with hbm | hbm
          · rcases hcov with ⟨hr, _⟩ | ⟨hc, _⟩
            · rw [hr] at hbm; cases hbm
            · exact (hc e ((f1 b (hRsub b hbm)).2.1 e hLe hbe)).resolve_left heK
          · rcases hcov with ⟨_, hy⟩ | ⟨_, hc⟩
            · rw [hy] at hbm; cases hbm
            · exact hc e ((hY b hbm).2.1 e hLe hbe)
    · change g.rch b
      rcases List.mem_cons.1 hbm with hbm | hbm
      · subst hbm
        rcases hBK with hge | ⟨hBf, _⟩
        · exact (h.reach _).2 (.inl (.inl (Nat.le_trans h.kept.size hge)))
        · exact (f1 b hBf).2.2
      · rcases List.mem_append.1 hbm with hbm | hbm
        · exact (f1 b (hRsub b hbm)).2.2
        · exact (hY b hbm).2.2
    · rcases h2 ho with ⟨hr, hy⟩ | ⟨ho2, hKm, hDm, hyn, hyo⟩
      · rw [hr, hy]; simp
      · refine List.nodup_cons.2 ⟨fun hbm => (List.mem_append.1 hbm).elim hBR hBY, List.nodup_append.2 ⟨hRnd ho2, hyn, fun x hx y hy hxy => ?_⟩⟩
        subst hxy
        obtain ⟨e, he, hxe⟩ := hyo x hy
        obtain ⟨e', he', hxe'⟩ := (f2 ho2).2 x (hRsub x hx)
        have := (hY x hy).2.1 e' (hmL e' he') hxe'
        exact hDm e' this he'
    · rcases List.mem_cons.1 hbm with hbm | hbm
      · subst hbm
        refine ⟨e0, hd0, ?_⟩
        change b ∈ (upd g.lam e0 LM) e0
        rw [upd_same]; simp [LM]
      · rcases h2 ho with ⟨hr, hy⟩ | ⟨ho2, hKm, hDm, hyn, hyo⟩
        · rw [hr, hy] at hbm; cases hbm
        · rcases List.mem_append.1 hbm with hbm | hbm
          · refine ⟨e0, hd0, ?_⟩
            change b ∈ (upd g.lam e0 LM) e0
            rw [upd_same]
            obtain ⟨e, he, hbe⟩ := (f2 ho2).2 b (hRsub b hbm)
            refine List.mem_cons_of_mem _ (List.mem_filter.2 ⟨hbm, ?_⟩)
            simp only [List.any_eq_true, List.contains_eq_mem, decide_eq_true_eq]
            exact ⟨e, by rw [hKm]; exact he, hbe⟩
          · obtain ⟨e, he, hbe⟩ := hyo b hbm
            rcases hcov with ⟨_, hy⟩ | ⟨_, hc⟩
            · rw [hy] at hbm; cases hbm
            · refine ⟨e, hc e he, ?_⟩
              change b ∈ (upd g.lam e0 LM) e
              rw [hlam e (hne e (hDU e he))]; exact hbe
    · obtain ⟨l, hl⟩ := h3 ho
      simp only [List.cons.injEq] at hbr
      obtain ⟨rfl, rfl⟩ := hbr
      refine ⟨fun hbm => (List.mem_append.1 hbm).elim hBR hBY, e0, l, hl, ?_⟩
      change B ∈ (upd g.lam e0 LM) e0
      rw [upd_same]; simp [LM]
  · rw [hU]
    rcases hdu e he with rfl | he | he
    · exact upd_same _ _ _
    · rw [upd_ne _ _ (hne e (hmU e he))]; exact hmU e he
    · rw [upd_ne _ _ (hne e (hDU e he))]; exact hDU e he

/-- Both arms at once. -/
theorem app_fin (h : Inv F s σ a w g) {n : Nat} (hn : n < F.n) {m : CM} {base : Option Addr} {cap sz : Nat} {rows more : List (List C)} (hx : CellOK (s.cx w g) (.slice base rows.length cap) (.sl sz rows) m) (hmU : ∀ e ∈ m.deps, s.U e = true) (hal : alive s.L m = true)
    (hown : 0 < m.own) {olds news : List Value} (hoR : Reps w olds rows.flatten) (hnR : Reps w news more.flatten) (hms : ∀ row ∈ more, row.length = sz) (hol : olds.length = rows.length * sz) (hnl : news.length = more.length * sz)
    (hfpo : ∀ ad, base = some ad → 0 < cap → fpRows w ad.block sz ad.off rows = fps w olds rows.flatten) (hposo : ∀ ad cells, base = some ad → 0 < cap → rowOf w ad.block = some cells → ∀ (j : Nat) (v : Value), olds[j]? = some v → cells[ad.off + j]? = some v)
    {D : List Nat} (hDU : ∀ e ∈ D, s.U e = true) (hY : ∀ b ∈ fps w news more.flatten, (∀ k, (s.b k).isSome = true → b ≠ g.bet k) ∧ (∀ e, s.L e = true → b ∈ g.lam e → e ∈ D) ∧ g.rch b)
    {v' : Value} {w1 : World} (hres : AppRes w base rows.length cap sz more.length olds news v' w1)
    {e0 : Nat} (he0 : s.U e0 = false) {K : List Nat} (hK : ∀ e ∈ K, e ∈ m.deps) (hKD : ∀ e ∈ K, e ∉ D) (hKm : 2 ≤ m.own ∧ K = m.deps ∨ (m.own = 1 ∨ m.own = 3) ∧ ∃ x r, m.deps = x :: r ∧ K = [x])
    {m' : CM} (hd0 : e0 ∈ m'.deps) (hcov : (fps w olds rows.flatten = [] ∧ fps w news more.flatten = []) ∨ (∀ e ∈ m.deps, e ∈ K ∨ e ∈ m'.deps) ∧ (∀ e ∈ D, e ∈ m'.deps)) (hdu : ∀ e ∈ m'.deps, e = e0 ∨ e ∈ m.deps ∨ e ∈ D)
    (h2 : 2 ≤ m'.own → (fps w olds rows.flatten = [] ∧ fps w news more.flatten = []) ∨ (2 ≤ m.own ∧ K = m.deps ∧ (∀ e ∈ D, e ∉ m.deps) ∧ (fps w news more.flatten).Nodup ∧ ∀ b ∈ fps w news more.flatten, ∃ e ∈ D, b ∈ g.lam e))
    (h3 : m'.own = 1 ∨ m'.own = 3 → ∃ l, m'.deps = e0 :: l)
    (ht : s1.t = upd s.t n (.c m')) (hb : s1.b = s.b) (hp : s1.p = (s.cutT n).p) (ha : s1.a = (s.cutT n).a) (hU : s1.U = upd s.U e0 true) (hL : ∀ e, s1.L e = true ↔ e = e0 ∨ (s.L e = true ∧ e ∉ K)) :
    ∃ g1, Inv F s1 (σ.put (some n) (.c (.sl sz (rows ++ more)))) (a.put (some n) v') w1 g1 := by
  obtain ⟨hR, f1, f2, f3⟩ := hx.2 hal
  change Rep w _ _ at hR
  have hmL : ∀ e ∈ m.deps, s.L e = true := by simp only [alive, List.all_eq_true] at hal; exact hal
  have hlt := Rep.lt _ _ hR
  have hYlt : ∀ b ∈ fps w news more.flatten, b < w.heap.size := by
    intro b hb
    obtain ⟨j, v, c, hv, hc, hbf⟩ := mem_fps hb
    exact Rep.lt c v (hnR.get j v c hv hc) b hbf
  have hR' := hR
  simp only [Rep] at hR'
  obtain ⟨base', cap', he, hle, hbase⟩ := hR'
  cases he
  have hrs : ∀ row ∈ rows, row.length = sz := by
    cases base with
    | none => simp only at hbase; have : rows = [] := List.eq_nil_of_length_eq_zero (by omega); rw [this]; simp
    | some ad =>
      intro row hrow
      obtain ⟨j, hj, rfl⟩ := List.getElem_of_mem hrow
      exact ((hbase (by omega)).2.2.get rows ad.off j _ (List.getElem?_eq_getElem hj)).1
  have hRsub : ∀ b ∈ fps w olds rows.flatten, b ∈ fp w (.slice base rows.length cap) (.sl sz rows) := by
    cases base with
    | none =>
      simp only at hbase
      have : rows = [] := List.eq_nil_of_length_eq_zero (by omega)
      rw [this]
      intro b hb
      cases olds <;> simp [fps] at hb
    | some ad =>
      intro b hb
      by_cases h0 : cap = 0
      · have : rows = [] := List.eq_nil_of_length_eq_zero (by omega)
        rw [this] at hb
        cases olds <;> simp [fps] at hb
      · simp only [fp, h0, if_false, hfpo ad rfl (by omega)]
        exact List.mem_cons_of_mem _ hb
  have hRnd : 2 ≤ m.own → (fps w olds rows.flatten).Nodup := by
    intro ho
    have := (f2 ho).1
    change (fp w (.slice base rows.length cap) (.sl sz rows)).Nodup at this
    cases base with
    | none =>
      simp only at hbase
      have : rows = [] := List.eq_nil_of_length_eq_zero (by omega)
      rw [this]
      cases olds <;> simp [fps]
    | some ad =>
      by_cases h0 : cap = 0
      · have : rows = [] := List.eq_nil_of_length_eq_zero (by omega)
        rw [this]
        cases olds <;> simp [fps]
      · simp only [fp, h0, if_false, hfpo ad rfl (by omega)] at this
        exact (List.nodup_cons.1 this).2
  have core := @app_core F s σ a w g s1 h n hn m _ sz rows more hx hmU hal olds news hoR hnR hrs hms hRsub hRnd D hDU hY e0 he0 K hK
  cases hres with
  | none hb0 hn0 hv hw =>
    subst hb0
    have hr0 : rows = [] := List.eq_nil_of_length_eq_zero (by omega)
    have hm0 : more = [] := List.eq_nil_of_length_eq_zero hn0
    subst hr0 hm0 hv hw
    refine ⟨_, h.newClass hn he0 (K := K) (LM := []) ht hb hp ha hU hL (Nat.le_refl _) rfl rfl rfl (fun _ _ _ => rfl) (by simp) (fun _ => CellOK.zero _ _ _ _) (fun e he => ?_)⟩
    rw [hU]
    by_cases h' : e = e0
    · rw [h', upd_same]
    · rw [upd_ne _ _ h']
      rcases hdu e he with rfl | he | he
      · exact absurd rfl h'
      · exact hmU e he
      · exact hDU e he
  | room ad cur ty hb0 hs hh hroom hc0 hv hw =>
    subst hb0 hv hw
    obtain ⟨bk, of, sp⟩ := ad
    simp only at hs hh
    subst hs
    have h0 : ¬ cap = 0 := by omega
    obtain ⟨_, ⟨cells, hc, hcap⟩, hrr⟩ := hbase hc0
    have hcc : cells = cur := by have := rowOf_box hh; rw [hc] at this; cases this; rfl
    subst hcc
    have hfpx : fp w (.slice (some ⟨bk, of, none⟩) rows.length cap) (.sl sz rows) = bk :: fps w olds rows.flatten := by simp only [fp, h0, if_false, hfpo _ rfl hc0]
    have hbx : bk ∈ fp w (.slice (some ⟨bk, of, none⟩) rows.length cap) (.sl sz rows) := by rw [hfpx]; simp
    have hBK : ∃ e ∈ K, bk ∈ g.lam e := by
      rcases hKm with ⟨ho, rfl⟩ | ⟨ho, x, r, hmd, rfl⟩
      · exact (f2 ho).2 bk hbx
      · obtain ⟨_, e, l, hel, hbe⟩ := f3 ho bk _ hfpx
        rw [hmd] at hel
        cases hel
        exact ⟨x, by simp, hbe⟩
    have hBR : bk ∉ fps w olds rows.flatten := by
      rcases hKm with ⟨ho, rfl⟩ | ⟨ho, x, r, hmd, rfl⟩
      · have := (f2 ho).1
        change (fp w _ _).Nodup at this
        rw [hfpx] at this
        exact (List.nodup_cons.1 this).1
      · exact (f3 ho bk _ hfpx).1
    have hBY : bk ∉ fps w news more.flatten := by
      intro hb
      obtain ⟨e, he, hbe⟩ := hBK
      exact hKD e he ((hY bk hb).2.1 e (hmL e (hK e he)) hbe)
    have hfit : of + rows.length * sz + news.length ≤ cells.size := by
      have : (rows.length + more.length) * sz ≤ cap * sz := Nat.mul_le_mul_right _ hroom
      rw [Nat.add_mul] at this
      simp only at hcap
      omega
    have hsp := splice_get cells.toList (of + rows.length * sz) news (by simp; omega)
    refine core (B := bk) (off := of) (cap1 := cap) (setRow_heap w bk cells _ ty _ hh) ?_ hroom hc0 (fun j v hj => ?_) (fun b _ hbb => setRow_other w bk b _ hbb) (by simp [World.setRow]) rfl rfl rfl (.inr ⟨hbx, hBK⟩) hBR hBY hd0 hcov hdu h2 h3 ht hb hp ha hU hL
    · have := splice_length cells.toList (of + rows.length * sz) news (by simp; omega)
      simp only [List.size_toArray, this, Array.length_toList]
      exact hcap
    · have e1 := hsp (of + j)
      by_cases hjo : j < olds.length
      · rw [List.getElem?_append_left hjo] at hj
        rw [if_neg (by omega)] at e1
        have := hposo _ cells rfl hc0 hc j v hj
        simp only at this
        rw [List.getElem?_toArray, e1]
        simpa using this
      · rw [List.getElem?_append_right (by omega)] at hj
        have hjn : j - olds.length < news.length := (List.getElem?_eq_some_iff.1 hj).1
        rw [if_pos (by omega), show of + j - (of + rows.length * sz) = j - olds.length by omega, hj] at e1
        rw [List.getElem?_toArray, e1]
  | grow cap' arr ty zs hle' hc0 hv harr hsz hw =>
    subst hv hw
    refine core (B := w.heap.size) (off := 0) (cap1 := cap') (World.get_alloc_new w.drew _) (by omega) hle' hc0 (fun j v hj => ?_) (fun b hbl _ => World.get_alloc_lt w.drew _ hbl) (by show w.heap.size ≤ (w.heap.push _).size; simp) rfl rfl rfl (.inl (Nat.le_refl _)) (fun hb => absurd (hlt _ (hRsub _ hb)) (by omega)) (fun hb => absurd (hYlt _ hb) (by omega)) hd0 hcov hdu h2 h3 ht hb hp ha hU hL
    rw [Nat.zero_add, ← Array.getElem?_toList, harr]
    rw [List.getElem?_append_left]
    · exact hj
    · exact (List.getElem?_eq_some_iff.1 hj).1
end
end Go.Opt
